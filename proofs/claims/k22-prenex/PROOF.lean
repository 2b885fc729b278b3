import PyProof.Rows.All
import Wide.All
import OpenK.AllK
import Wide.FinOn
import HandS.Base
import HandS.Call
import HandS.Words
import HandS.Defaults
import PySem.Challenge.RW_sayso_k22_whole_prenex_forms
import KE.KStateDown
import HandS.Exc
import HandS.More
import HandS.Head0
import HandS.Head1
import HandS.Head2
import HandS.HeadHook1
import HandS.HeadHook2
import HandS.HeadHook3
import HandS.HeadHook4
import HandS.ExcIs
import HandS.ForMost
import HandS.IsInst
import HandS.TupAny
import PyProof.Rows.SortStr
import PyProof.Rows.SetFrom
import HandS.List
import HandS.Set
import HandS.Strs
import HandS.SetKeys
import HandS.FStr
import HandS.DictComp
import HandS.Style
import HandS.ExcOwn
import HandS.WordsExc
import PyProof.Rows.SortShellAny
import KE.SortData
import HandS.Deep
import HandS.HeadEnd
set_option Elab.async false
set_option linter.all false
set_option maxRecDepth 100000
/-! the text by places (printed by genhead.py) -/
namespace Say
open PySem PySem.Spec PyProof.Rows L2
def top (i : Nat) : Stmt := PySem.Challenge.pw_sayso_k22_whole_prenex_forms.main.body.getD i (.Pass ⟨0, 0, 0, 0⟩)
abbrev FnP (K : PySem.W.Frag) (x : Str) (st : Stmt) (f : Addr) (fd : FuncData) : Prop := FunD K x x (defArgs st) (defBody st) (defScope st) [] [] f fd
abbrev MeP (K : PySem.W.Frag) (x q : Str) (st : Stmt) (f : Addr) (fd : FuncData) : Prop := FunD K x q (defArgs st) (defBody st) (defScope st) [] [] f fd
abbrev s_is_integer : Stmt := top 11
abbrev s_is_below : Stmt := top 12
abbrev s_is_name : Stmt := top 13
abbrev s_inner : Stmt := top 23
abbrev s_rebuilt : Stmt := top 24
abbrev s_own_variables : Stmt := top 25
abbrev s_own_name : Stmt := top 26
abbrev s_own_arguments : Stmt := top 27
abbrev s_are_names : Stmt := top 28
abbrev s_are_variables : Stmt := top 29
abbrev s_is_well_made : Stmt := top 30
abbrev s_agrees : Stmt := top 32
abbrev s_occurs : Stmt := top 33
abbrev s_looked : Stmt := top 34
abbrev s_all_names : Stmt := top 35
abbrev s_check_formula : Stmt := top 37
abbrev s_is_plain : Stmt := top 38
abbrev s_fresh_for : Stmt := top 41
abbrev s_named : Stmt := top 42
abbrev s_with_own : Stmt := top 43
abbrev s_renamed : Stmt := top 44
abbrev s_sized : Stmt := top 47
abbrev s_moved : Stmt := top 48
abbrev s_apart : Stmt := top 49
abbrev s_pulled : Stmt := top 50
abbrev s_gathered : Stmt := top 51
abbrev s_prenex : Stmt := top 52
abbrev s_law_mixed : Stmt := top 54
abbrev s_law_numbers : Stmt := top 55
abbrev s_law_draw : Stmt := top 56
abbrev s_law_some_of : Stmt := top 57
abbrev s_law_atom : Stmt := top 58
abbrev s_law_within : Stmt := top 59
abbrev s_law_turned : Stmt := top 60
abbrev s_law_barred : Stmt := top 61
abbrev s_law_bound : Stmt := top 62
abbrev s_law_formula : Stmt := top 63
abbrev s_law_names : Stmt := top 64
abbrev s_law_parts : Stmt := top 65
abbrev s_law_bound_here : Stmt := top 66
abbrev s_law_own : Stmt := top 67
abbrev s_law_free : Stmt := top 68
abbrev s_law_symbols : Stmt := top 69
abbrev s_law_tuples : Stmt := top 70
abbrev s_law_with : Stmt := top 71
abbrev s_law_true : Stmt := top 76
abbrev s_law_cost : Stmt := top 77
abbrev s_law_subset : Stmt := top 78
abbrev s_law_world : Stmt := top 79
abbrev s_law_rows : Stmt := top 80
abbrev s_law_matrix : Stmt := top 81
abbrev s_law_plain : Stmt := top 82
abbrev s_law_refused : Stmt := top 83
abbrev s_law_quantifiers : Stmt := top 84
abbrev s_law_theirs : Stmt := top 85
abbrev s_law : Stmt := top 86
abbrev s_Look_init : Stmt := inClass (top 31) 0
abbrev s_Look_rel : Stmt := inClass (top 31) 1
abbrev s_Look_go : Stmt := inClass (top 31) 2
abbrev s_Fresh_init : Stmt := inClass (top 40) 0
abbrev s_Fresh_name : Stmt := inClass (top 40) 1
end Say
set_option maxRecDepth 100000
set_option maxHeartbeats 0
/-! the head: facts by names, the one kernel run (printed by genhead.py) -/
namespace Say
open PySem PySem.Spec PyProof.Rows L2
/-! ### the head: facts by names -/
def d_is_integer : He.DefD := ⟨("is_integer", none), "is_integer", "is_integer", defArgs s_is_integer, defBody s_is_integer, defScope s_is_integer, [], []⟩
def d_is_below : He.DefD := ⟨("is_below", none), "is_below", "is_below", defArgs s_is_below, defBody s_is_below, defScope s_is_below, [], []⟩
def d_is_name : He.DefD := ⟨("is_name", none), "is_name", "is_name", defArgs s_is_name, defBody s_is_name, defScope s_is_name, [], []⟩
def d_inner : He.DefD := ⟨("inner", none), "inner", "inner", defArgs s_inner, defBody s_inner, defScope s_inner, [], []⟩
def d_rebuilt : He.DefD := ⟨("rebuilt", none), "rebuilt", "rebuilt", defArgs s_rebuilt, defBody s_rebuilt, defScope s_rebuilt, [], []⟩
def d_own_variables : He.DefD := ⟨("own_variables", none), "own_variables", "own_variables", defArgs s_own_variables, defBody s_own_variables, defScope s_own_variables, [], []⟩
def d_own_name : He.DefD := ⟨("own_name", none), "own_name", "own_name", defArgs s_own_name, defBody s_own_name, defScope s_own_name, [], []⟩
def d_own_arguments : He.DefD := ⟨("own_arguments", none), "own_arguments", "own_arguments", defArgs s_own_arguments, defBody s_own_arguments, defScope s_own_arguments, [], []⟩
def d_are_names : He.DefD := ⟨("are_names", none), "are_names", "are_names", defArgs s_are_names, defBody s_are_names, defScope s_are_names, [], []⟩
def d_are_variables : He.DefD := ⟨("are_variables", none), "are_variables", "are_variables", defArgs s_are_variables, defBody s_are_variables, defScope s_are_variables, [], []⟩
def d_is_well_made : He.DefD := ⟨("is_well_made", none), "is_well_made", "is_well_made", defArgs s_is_well_made, defBody s_is_well_made, defScope s_is_well_made, [], []⟩
def d_agrees : He.DefD := ⟨("agrees", none), "agrees", "agrees", defArgs s_agrees, defBody s_agrees, defScope s_agrees, [], []⟩
def d_occurs : He.DefD := ⟨("occurs", none), "occurs", "occurs", defArgs s_occurs, defBody s_occurs, defScope s_occurs, [], []⟩
def d_looked : He.DefD := ⟨("looked", none), "looked", "looked", defArgs s_looked, defBody s_looked, defScope s_looked, [], []⟩
def d_all_names : He.DefD := ⟨("all_names", none), "all_names", "all_names", defArgs s_all_names, defBody s_all_names, defScope s_all_names, [], []⟩
def d_check_formula : He.DefD := ⟨("check_formula", none), "check_formula", "check_formula", defArgs s_check_formula, defBody s_check_formula, defScope s_check_formula, [], []⟩
def d_is_plain : He.DefD := ⟨("is_plain", none), "is_plain", "is_plain", defArgs s_is_plain, defBody s_is_plain, defScope s_is_plain, [], []⟩
def d_fresh_for : He.DefD := ⟨("fresh_for", none), "fresh_for", "fresh_for", defArgs s_fresh_for, defBody s_fresh_for, defScope s_fresh_for, [], []⟩
def d_named : He.DefD := ⟨("named", none), "named", "named", defArgs s_named, defBody s_named, defScope s_named, [], []⟩
def d_with_own : He.DefD := ⟨("with_own", none), "with_own", "with_own", defArgs s_with_own, defBody s_with_own, defScope s_with_own, [], []⟩
def d_renamed : He.DefD := ⟨("renamed", none), "renamed", "renamed", defArgs s_renamed, defBody s_renamed, defScope s_renamed, [], []⟩
def d_sized : He.DefD := ⟨("sized", none), "sized", "sized", defArgs s_sized, defBody s_sized, defScope s_sized, [], []⟩
def d_moved : He.DefD := ⟨("moved", none), "moved", "moved", defArgs s_moved, defBody s_moved, defScope s_moved, [], []⟩
def d_apart : He.DefD := ⟨("apart", none), "apart", "apart", defArgs s_apart, defBody s_apart, defScope s_apart, [], []⟩
def d_pulled : He.DefD := ⟨("pulled", none), "pulled", "pulled", defArgs s_pulled, defBody s_pulled, defScope s_pulled, [], []⟩
def d_gathered : He.DefD := ⟨("gathered", none), "gathered", "gathered", defArgs s_gathered, defBody s_gathered, defScope s_gathered, [], []⟩
def d_prenex : He.DefD := ⟨("prenex", none), "prenex", "prenex", defArgs s_prenex, defBody s_prenex, defScope s_prenex, [], []⟩
def d_law_mixed : He.DefD := ⟨("_law_mixed", none), "_law_mixed", "_law_mixed", defArgs s_law_mixed, defBody s_law_mixed, defScope s_law_mixed, [], []⟩
def d_law_numbers : He.DefD := ⟨("_law_numbers", none), "_law_numbers", "_law_numbers", defArgs s_law_numbers, defBody s_law_numbers, defScope s_law_numbers, [], []⟩
def d_law_draw : He.DefD := ⟨("_law_draw", none), "_law_draw", "_law_draw", defArgs s_law_draw, defBody s_law_draw, defScope s_law_draw, [], []⟩
def d_law_some_of : He.DefD := ⟨("_law_some_of", none), "_law_some_of", "_law_some_of", defArgs s_law_some_of, defBody s_law_some_of, defScope s_law_some_of, [], []⟩
def d_law_atom : He.DefD := ⟨("_law_atom", none), "_law_atom", "_law_atom", defArgs s_law_atom, defBody s_law_atom, defScope s_law_atom, [], []⟩
def d_law_within : He.DefD := ⟨("_law_within", none), "_law_within", "_law_within", defArgs s_law_within, defBody s_law_within, defScope s_law_within, [], []⟩
def d_law_turned : He.DefD := ⟨("_law_turned", none), "_law_turned", "_law_turned", defArgs s_law_turned, defBody s_law_turned, defScope s_law_turned, [], []⟩
def d_law_barred : He.DefD := ⟨("_law_barred", none), "_law_barred", "_law_barred", defArgs s_law_barred, defBody s_law_barred, defScope s_law_barred, [], []⟩
def d_law_bound : He.DefD := ⟨("_law_bound", none), "_law_bound", "_law_bound", defArgs s_law_bound, defBody s_law_bound, defScope s_law_bound, [], []⟩
def d_law_formula : He.DefD := ⟨("_law_formula", none), "_law_formula", "_law_formula", defArgs s_law_formula, defBody s_law_formula, defScope s_law_formula, [], []⟩
def d_law_names : He.DefD := ⟨("_law_names", none), "_law_names", "_law_names", defArgs s_law_names, defBody s_law_names, defScope s_law_names, [], []⟩
def d_law_parts : He.DefD := ⟨("_law_parts", none), "_law_parts", "_law_parts", defArgs s_law_parts, defBody s_law_parts, defScope s_law_parts, [], []⟩
def d_law_bound_here : He.DefD := ⟨("_law_bound_here", none), "_law_bound_here", "_law_bound_here", defArgs s_law_bound_here, defBody s_law_bound_here, defScope s_law_bound_here, [], []⟩
def d_law_own : He.DefD := ⟨("_law_own", none), "_law_own", "_law_own", defArgs s_law_own, defBody s_law_own, defScope s_law_own, [], []⟩
def d_law_free : He.DefD := ⟨("_law_free", none), "_law_free", "_law_free", defArgs s_law_free, defBody s_law_free, defScope s_law_free, [], []⟩
def d_law_symbols : He.DefD := ⟨("_law_symbols", none), "_law_symbols", "_law_symbols", defArgs s_law_symbols, defBody s_law_symbols, defScope s_law_symbols, [], []⟩
def d_law_tuples : He.DefD := ⟨("_law_tuples", none), "_law_tuples", "_law_tuples", defArgs s_law_tuples, defBody s_law_tuples, defScope s_law_tuples, [], []⟩
def d_law_with : He.DefD := ⟨("_law_with", none), "_law_with", "_law_with", defArgs s_law_with, defBody s_law_with, defScope s_law_with, [], []⟩
def d_law_true : He.DefD := ⟨("_law_true", none), "_law_true", "_law_true", defArgs s_law_true, defBody s_law_true, defScope s_law_true, [], []⟩
def d_law_cost : He.DefD := ⟨("_law_cost", none), "_law_cost", "_law_cost", defArgs s_law_cost, defBody s_law_cost, defScope s_law_cost, [], []⟩
def d_law_subset : He.DefD := ⟨("_law_subset", none), "_law_subset", "_law_subset", defArgs s_law_subset, defBody s_law_subset, defScope s_law_subset, [], []⟩
def d_law_world : He.DefD := ⟨("_law_world", none), "_law_world", "_law_world", defArgs s_law_world, defBody s_law_world, defScope s_law_world, [], []⟩
def d_law_rows : He.DefD := ⟨("_law_rows", none), "_law_rows", "_law_rows", defArgs s_law_rows, defBody s_law_rows, defScope s_law_rows, [], []⟩
def d_law_matrix : He.DefD := ⟨("_law_matrix", none), "_law_matrix", "_law_matrix", defArgs s_law_matrix, defBody s_law_matrix, defScope s_law_matrix, [], []⟩
def d_law_plain : He.DefD := ⟨("_law_plain", none), "_law_plain", "_law_plain", defArgs s_law_plain, defBody s_law_plain, defScope s_law_plain, [], []⟩
def d_law_refused : He.DefD := ⟨("_law_refused", none), "_law_refused", "_law_refused", defArgs s_law_refused, defBody s_law_refused, defScope s_law_refused, [], []⟩
def d_law_quantifiers : He.DefD := ⟨("_law_quantifiers", none), "_law_quantifiers", "_law_quantifiers", defArgs s_law_quantifiers, defBody s_law_quantifiers, defScope s_law_quantifiers, [], []⟩
def d_law_theirs : He.DefD := ⟨("_law_theirs", none), "_law_theirs", "_law_theirs", defArgs s_law_theirs, defBody s_law_theirs, defScope s_law_theirs, [], []⟩
def d_law : He.DefD := ⟨("law", none), "law", "law", defArgs s_law, defBody s_law, defScope s_law, [], []⟩
def d_Look_init : He.DefD := ⟨("Look", some "__init__"), "__init__", "Look.__init__", defArgs s_Look_init, defBody s_Look_init, defScope s_Look_init, [], []⟩
def d_Look_rel : He.DefD := ⟨("Look", some "rel"), "rel", "Look.rel", defArgs s_Look_rel, defBody s_Look_rel, defScope s_Look_rel, [], []⟩
def d_Look_go : He.DefD := ⟨("Look", some "go"), "go", "Look.go", defArgs s_Look_go, defBody s_Look_go, defScope s_Look_go, [], []⟩
def d_Fresh_init : He.DefD := ⟨("Fresh", some "__init__"), "__init__", "Fresh.__init__", defArgs s_Fresh_init, defBody s_Fresh_init, defScope s_Fresh_init, [], []⟩
def d_Fresh_name : He.DefD := ⟨("Fresh", some "name"), "name", "Fresh.name", defArgs s_Fresh_name, defBody s_Fresh_name, defScope s_Fresh_name, [], []⟩
def fn : List He.DefD := [d_is_integer, d_is_below, d_is_name, d_inner, d_rebuilt, d_own_variables, d_own_name, d_own_arguments, d_are_names, d_are_variables, d_is_well_made, d_agrees, d_occurs, d_looked, d_all_names, d_check_formula, d_is_plain, d_fresh_for, d_named, d_with_own, d_renamed, d_sized, d_moved, d_apart, d_pulled, d_gathered, d_prenex, d_law_mixed, d_law_numbers, d_law_draw, d_law_some_of, d_law_atom, d_law_within, d_law_turned, d_law_barred, d_law_bound, d_law_formula, d_law_names, d_law_parts, d_law_bound_here, d_law_own, d_law_free, d_law_symbols, d_law_tuples, d_law_with, d_law_true, d_law_cost, d_law_subset, d_law_world, d_law_rows, d_law_matrix, d_law_plain, d_law_refused, d_law_quantifiers, d_law_theirs, d_law, d_Look_init, d_Look_rel, d_Look_go, d_Fresh_init, d_Fresh_name]
def fa1 : List He.Fa := [.glo "is_integer", .glo "is_below", .glo "is_name", .glo "inner", .glo "rebuilt", .glo "own_variables", .glo "own_name", .glo "own_arguments", .glo "are_names", .glo "are_variables", .glo "is_well_made", .glo "agrees", .glo "occurs", .glo "looked", .glo "all_names", .glo "check_formula", .glo "is_plain", .glo "fresh_for", .glo "named", .glo "with_own", .glo "renamed", .glo "sized", .glo "moved", .glo "apart", .glo "pulled", .glo "gathered", .glo "prenex", .glo "_law_mixed", .glo "_law_numbers", .glo "_law_draw", .glo "_law_some_of", .glo "_law_atom", .glo "_law_within", .glo "_law_turned", .glo "_law_barred", .glo "_law_bound"]
def fa2 : List He.Fa := [.glo "_law_formula", .glo "_law_names", .glo "_law_parts", .glo "_law_bound_here", .glo "_law_own", .glo "_law_free", .glo "_law_symbols", .glo "_law_tuples", .glo "_law_with", .glo "_law_true", .glo "_law_cost", .glo "_law_subset", .glo "_law_world", .glo "_law_rows", .glo "_law_matrix", .glo "_law_plain", .glo "_law_refused", .glo "_law_quantifiers", .glo "_law_theirs", .glo "law", .glo "QUANTIFIERS", .glo "FIXED", .glo "WORDS", .glo "DUAL", .glo "LENGTHS", .glo "Look", .glo "Fresh", .glo "BadArgument", .glo "BadFormula", .int "LONGEST" 12, .int "PLACES" 6, .int "MOST" 2000, .int "DEEPEST" 40, .int "BRANCHES" 40, .int "GUESSED" 3, .int "STEPS" 8]
def fa3 : List He.Fa := [.str "LETTERS" "abcdefghijklmnopqrstuvwxyz", .str "FIGURES" "0123456789", .free "isinstance", .free "int", .free "bool", .free "str", .free "len", .free "tuple", .free "set", .free "dict", .free "sorted", .free "range", .free "list", .free "min", .free "sum", .cls "Look", .cls "Fresh", .noat "Look" "count", .noat "Look" "found", .noat "Fresh" "used", .noat "Fresh" "number", .meth "Look" "go", .meth "Look" "rel", .meth "Fresh" "name", .mkr "Look", .mkr "Fresh", .exc "BadArgument", .exm "BadArgument" "BadArgument" true]
def fa : List He.Fa := fa1 ++ (fa2 ++ fa3)
def tabs : List He.Tab := [(fun K => He.ga K "DUAL", ["and", "or", "some", "all"]), (fun K => He.ga K "LENGTHS", ["rel", "eq", "less", "not", "and", "or", "some", "all", "lfp", "pfp", "tc", "guess"])]
def kDual : List (Str × He.Dv) := [("and", .str "or"), ("or", .str "and"), ("some", .str "all"), ("all", .str "some")]
def kLens : List (Str × He.Dv) := [("rel", .int 3), ("eq", .int 3), ("less", .int 3), ("not", .int 2), ("and", .int 2), ("or", .int 2), ("some", .int 3), ("all", .int 3), ("lfp", .int 5), ("pfp", .int 5), ("tc", .int 4), ("guess", .int 4)]
def kWords : List He.Dv := [.str "and", .str "or", .str "not", .str "some", .str "all", .str "lfp", .str "pfp", .str "tc", .str "guess", .str "true", .str "false"]
/-- what is told besides -/
def exB (K : PySem.W.Frag) : Bool :=
  He.tupB K "QUANTIFIERS" [.str "some", .str "all"] && (He.tupB K "FIXED" [.str "lfp", .str "pfp"] && (He.tupB K "WORDS" kWords && (He.valsB K (He.ga K "DUAL") kDual && (He.valsB K (He.ga K "LENGTHS") kLens &&
  ((["rel", "eq", "less", "not"] : List Str).all (fun z => He.eqO (PySem.W.nsIn K (He.ga K "DUAL") z) (some none)) &&
  (He.eqO (PySem.W.findIn K (.ref (He.ga K "BadArgument")) "__getattribute__") (some (some (.builtin "BaseException.__getattribute__"))) &&
  (He.eqO (PySem.W.findIn K (.ref (He.ga K "BadArgument")) "__getattr__") (some none) &&
  (PySem.W.hasDictIn K (He.ga K "BadArgument") &&
  (He.eqO (PySem.W.findIn K (.ref (He.ga K "BadArgument")) "__class__") (some (some (.builtin "object.__class__"))) &&
  (He.eqO (PySem.W.specialIn K (.builtin "object.__class__") "__get__") (some (some (.builtin "getset_descriptor.__get__"))) &&
  (decide (PySem.W.takesIn K (.builtin "object.__class__") = some true) &&
  (decide (PySem.W.mroIn K (He.ga K "BadArgument") (.type "object") = some true) &&
  decide (PySem.W.kitOne K (.ref (He.ga K "BadArgument")) (.ref (He.ga K "BadFormula")) = some false)))))))))))))
def loose0 : List Str := ["SaysoError", "BadFormula", "BadArgument", "TooLarge", "LETTERS", "FIGURES", "LONGEST", "WORDS", "PLACES", "is_integer", "is_below", "is_name", "MOST", "DEEPEST", "BRANCHES", "GUESSED", "STEPS", "QUANTIFIERS", "FIXED", "LENGTHS", "inner", "rebuilt", "own_variables", "own_name"]
def loose1 : List Str := ["own_arguments", "are_names", "are_variables", "is_well_made", "Look", "agrees", "occurs", "looked", "all_names", "check_formula", "is_plain", "Fresh", "fresh_for", "named", "with_own", "renamed", "DUAL", "sized", "moved", "apart", "pulled", "gathered", "prenex", "_law_mixed"]
def loose2 : List Str := ["_law_numbers", "_law_draw", "_law_some_of", "_law_atom", "_law_within", "_law_turned", "_law_barred", "_law_bound", "_law_formula", "_law_names", "_law_parts", "_law_bound_here", "_law_own", "_law_free", "_law_symbols", "_law_tuples", "_law_with", "_law_next", "_law_settled", "_law_closed", "_law_guessed", "_law_true", "_law_cost", "_law_subset"]
def loose3 : List Str := ["_law_world", "_law_rows", "_law_matrix", "_law_plain", "_law_refused", "_law_quantifiers", "_law_theirs"]
def loose : List Str := loose0 ++ (loose1 ++ (loose2 ++ (loose3)))
abbrev R : PySem.W.OpenRow := PySem.W.OpenLaw.row PySem.Challenge.rw_sayso_k22_whole_prenex_forms
/-! ### what is looked at: the module's names, the functions' code, the classes' own names -/
def fnRefs (g : Addr → Option Obj) (a : Addr) : List Addr := match g a with
  | some ⟨_, _, .func fd, _⟩ => a :: He.refV fd.code
  | _ => [a]
def nsRefs (g : Addr → Option Obj) (a : Addr) : List Addr := match g a with
  | some ⟨_, _, .dict es _, _⟩ => es.toList.flatMap fun e => He.refV e.val
  | _ => []
def topRefs (g : Addr → Option Obj) (a : Addr) : List Addr := match g a with
  | some ⟨_, _, .func fd, _⟩ => a :: He.refV fd.code
  | some ⟨_, _, .cls cd, _⟩ => a :: cd.ns :: (nsRefs g cd.ns).flatMap (fnRefs g)
  | _ => [a]
def as (g : Addr → Option Obj) : List Addr := mainGlobals :: (nsRefs g mainGlobals).flatMap (topRefs g)
abbrev AlS : Type := He.AlT × Bool
def obsS (g : Addr → Option Obj) : AlS := (He.obsT fa fn tabs (He.frG g (as g)), exB (He.frG g (as g)))
def valS (w : World) : AlS := (He.valT fn tabs w, true)
def SaysS (w : World) (K : PySem.W.Frag) : Prop := He.SaysT fa fn tabs w K ∧ exB K = true
def hk : PySem.W.Hook where
  α := AlS
  obs := fun s => obsS s.heap.get?
  val := fun w => valS w
  says := fun w h => ∃ K : PySem.W.Frag, K.In h ∧ SaysS w K
  of := fun _ _ e => ⟨_, He.frG_in, congrArg (fun z : AlS => z.1) e, congrArg (fun z : AlS => z.2) e⟩
  keeps := fun _ _ _ ⟨K, hK, c⟩ k => ⟨K, PySem.W.Frag.In.keeps hK k, c⟩
def ob (s : PySem.W.SharedT) : AlS := obsS (HandSHeadRun.getT s)
theorem ob_eq (s : PySem.W.SharedT) : ob s = hk.obs s.abs := by
  have e : HandSHeadRun.getT s = s.abs.heap.get? := funext (HandSHeadRun.getT_eq s)
  show obsS (HandSHeadRun.getT s) = obsS s.abs.heap.get?
  rw [e]
abbrev runAt (w : World) : Prop := HandSHeadRun.RunEq R (PySem.W.view R.prog [86]) hk ob 6000 loose w
theorem run_f (w : World) : runAt (w.withFollow "special-get-raises" false) := fun os => by kernel_rfl
theorem run_t (w : World) : runAt (w.withFollow "special-get-raises" true) := fun os => by kernel_rfl
theorem run (w : World) : runAt w := PySem.W.byRow2 "special-get-raises" (P := runAt) run_f run_t w
end Say
set_option maxRecDepth 100000
/-! formulas as a datum, what they mean, the program's functions upon them as plain functions -/
namespace Say
open PySem
/-- a formula: jn true = and, jn false = or; qu true = all, qu false = some; fx true = lfp, fx false = pfp -/
inductive Fm where
  | rel (nm : Str) (args : List Str)
  | cmp (lt : Bool) (x y : Str)
  | neg (f : Fm)
  | jn (c : Bool) (fs : List Fm)
  | qu (c : Bool) (vs : List Str) (f : Fm)
  | fx (l : Bool) (nm : Str) (vs : List Str) (f : Fm) (args : List Str)
  | tc (vs : List Str) (f : Fm) (args : List Str)
  | gs (nm : Str) (ar : Nat) (f : Fm)
namespace Fm
def wd : Fm → Str
  | rel _ _ => "rel"
  | cmp true _ _ => "less"
  | cmp false _ _ => "eq"
  | neg _ => "not"
  | jn true _ => "and"
  | jn false _ => "or"
  | qu true _ _ => "all"
  | qu false _ _ => "some"
  | fx true _ _ _ _ => "lfp"
  | fx false _ _ _ _ => "pfp"
  | tc _ _ _ => "tc"
  | gs _ _ _ => "guess"
def kids : Fm → List Fm
  | rel _ _ => []
  | cmp _ _ _ => []
  | neg f => [f]
  | jn _ fs => fs
  | qu _ _ f => [f]
  | fx _ _ _ f _ => [f]
  | tc _ f _ => [f]
  | gs _ _ f => [f]
/-- the variables that it binds -/
def ownV : Fm → List Str
  | qu _ vs _ => vs
  | fx _ _ vs _ _ => vs
  | tc vs _ _ => vs
  | _ => []
/-- the variables that stand in it itself -/
def ownA : Fm → List Str
  | rel _ args => args
  | cmp _ x y => [x, y]
  | fx _ _ _ _ args => args
  | tc _ _ args => args
  | _ => []
/-- the name that it binds -/
def ownN : Fm → Option (Str × Nat)
  | fx _ nm vs _ _ => some (nm, vs.length)
  | gs nm ar _ => some (nm, ar)
  | _ => none
/-! ### sizes -/
mutual
def dp : Fm → Nat
  | rel _ _ => 1
  | cmp _ _ _ => 1
  | neg f => dp f + 1
  | jn _ fs => dps fs + 1
  | qu _ _ f => dp f + 1
  | fx _ _ _ f _ => dp f + 1
  | tc _ f _ => dp f + 1
  | gs _ _ f => dp f + 1
def dps : List Fm → Nat
  | [] => 0
  | f :: fs => max (dp f) (dps fs)
end
mutual
def pt : Fm → Nat
  | rel _ _ => 1
  | cmp _ _ _ => 1
  | neg f => pt f + 1
  | jn _ fs => pts fs + 1
  | qu _ _ f => pt f + 1
  | fx _ _ _ f _ => pt f + 1
  | tc _ f _ => pt f + 1
  | gs _ _ f => pt f + 1
def pts : List Fm → Nat
  | [] => 0
  | f :: fs => pt f + pts fs
end
/-! how many variables some and all bind -/
mutual
def qn : Fm → Nat
  | rel _ _ => 0
  | cmp _ _ _ => 0
  | neg f => qn f
  | jn _ fs => qns fs
  | qu _ vs f => vs.length + qn f
  | fx _ _ _ f _ => qn f
  | tc _ f _ => qn f
  | gs _ _ f => qn f
def qns : List Fm → Nat
  | [] => 0
  | f :: fs => qn f + qns fs
end
theorem dps_kids (f : Fm) : dp f = dps (kids f) + 1 := by
  cases f <;> simp [dp, dps, kids]
theorem pts_kids (f : Fm) : pt f = pts (kids f) + 1 := by
  cases f <;> simp [pt, pts, kids]
theorem dp_pos (f : Fm) : 1 ≤ dp f := by rw [dps_kids]; omega
theorem pt_pos (f : Fm) : 1 ≤ pt f := by rw [pts_kids]; omega
theorem dp_le_dps : ∀ {fs : List Fm} {f : Fm}, f ∈ fs → dp f ≤ dps fs
  | [], _, h => by cases h
  | g :: r, f, h => by
    rcases List.mem_cons.mp h with e | h
    · subst e; exact Nat.le_max_left _ _
    · exact Nat.le_trans (dp_le_dps h) (Nat.le_max_right _ _)
theorem dp_kid {f g : Fm} (h : g ∈ kids f) : dp g + 1 ≤ dp f := by
  rw [dps_kids f]
  exact Nat.succ_le_succ (dp_le_dps h)
theorem dps_le {n : Nat} : ∀ {fs : List Fm}, (∀ f ∈ fs, dp f ≤ n) → dps fs ≤ n
  | [], _ => Nat.zero_le _
  | f :: r, h => Nat.max_le.mpr ⟨h f List.mem_cons_self, dps_le fun g hg => h g (List.mem_cons_of_mem _ hg)⟩
theorem qns_kids {f : Fm} (h : ∀ c vs g, f ≠ qu c vs g) : qn f = qns (kids f) := by
  cases f with
  | qu c vs g => exact absurd rfl (h c vs g)
  | _ => simp [qn, qns, kids]
/-! ### an induction over the depth -/
theorem ind {P : Fm → Prop} (h : ∀ f, (∀ g ∈ kids f, P g) → P f) (f : Fm) : P f := by
  have all : ∀ (n : Nat) (f : Fm), dp f ≤ n → P f := by
    intro n
    induction n with
    | zero => intro f hf; exact absurd (dp_pos f) (by omega)
    | succ n ih => intro f hf; exact h f fun g hg => ih g (by have := dp_kid hg; omega)
  exact all (dp f) f (Nat.le_refl _)
/-! ### free variables, symbols, all names -/
mutual
def fv : Fm → List Str
  | rel _ args => args
  | cmp _ x y => [x, y]
  | neg f => fv f
  | jn _ fs => fvs fs
  | qu _ vs f => (fv f).filter fun x => !vs.contains x
  | fx _ _ vs f args => ((fv f).filter fun x => !vs.contains x) ++ args
  | tc vs f args => ((fv f).filter fun x => !vs.contains x) ++ args
  | gs _ _ f => fv f
def fvs : List Fm → List Str
  | [] => []
  | f :: fs => fv f ++ fvs fs
end
theorem mem_fvs {x : Str} : ∀ {fs : List Fm}, x ∈ fvs fs ↔ ∃ f ∈ fs, x ∈ fv f
  | [] => by simp [fvs]
  | f :: r => by simp [fvs, mem_fvs (fs := r)]
theorem fv_kids (f : Fm) (x : Str) : x ∈ fv f ↔ (x ∈ fvs (kids f) ∧ x ∉ ownV f) ∨ x ∈ ownA f := by
  cases f <;> simp [fv, fvs, kids, ownV, ownA]
/-! the symbols of a first-order formula, with their numbers of arguments -/
mutual
def sy : Fm → List (Str × Nat)
  | rel nm args => [(nm, args.length)]
  | cmp _ _ _ => []
  | neg f => sy f
  | jn _ fs => sys fs
  | qu _ _ f => sy f
  | fx _ _ _ f _ => sy f
  | tc _ f _ => sy f
  | gs _ _ f => sy f
def sys : List Fm → List (Str × Nat)
  | [] => []
  | f :: fs => sy f ++ sys fs
end
theorem mem_sys {x : Str × Nat} : ∀ {fs : List Fm}, x ∈ sys fs ↔ ∃ f ∈ fs, x ∈ sy f
  | [] => by simp [sys]
  | f :: r => by simp [sys, mem_sys (fs := r)]
/-! all variables and names -/
mutual
def an : Fm → List Str
  | rel nm args => args ++ [nm]
  | cmp _ x y => [x, y]
  | neg f => an f
  | jn _ fs => ans fs
  | qu _ vs f => vs ++ an f
  | fx _ nm vs f args => args ++ vs ++ [nm] ++ an f
  | tc vs f args => args ++ vs ++ an f
  | gs nm _ f => [nm] ++ an f
def ans : List Fm → List Str
  | [] => []
  | f :: fs => an f ++ ans fs
end
theorem mem_ans {x : Str} : ∀ {fs : List Fm}, x ∈ ans fs ↔ ∃ f ∈ fs, x ∈ an f
  | [] => by simp [ans]
  | f :: r => by simp [ans, mem_ans (fs := r)]
theorem an_kids (f : Fm) (x : Str) : x ∈ an f ↔ x ∈ ownA f ∨ x ∈ ownV f ∨ (∃ p, ownN f = some p ∧ p.1 = x) ∨ (∃ nm args, f = rel nm args ∧ nm = x) ∨ x ∈ ans (kids f) := by
  cases f with
  | rel nm args => simp [an, ans, kids, ownV, ownA, ownN, eq_comm]
  | cmp b u v => simp [an, ans, kids, ownV, ownA, ownN]
  | neg f => simp [an, ans, kids, ownV, ownA, ownN]
  | jn c fs => simp [an, ans, kids, ownV, ownA, ownN]
  | qu c vs f => simp [an, ans, kids, ownV, ownA, ownN]
  | fx l nm vs f args => simp [an, ans, kids, ownV, ownA, ownN, eq_comm, or_assoc, or_left_comm]
  | tc vs f args => simp [an, ans, kids, ownV, ownA, ownN, or_assoc]
  | gs nm ar f => simp [an, ans, kids, ownV, ownA, ownN, eq_comm]
theorem fv_an (f : Fm) : ∀ x, x ∈ fv f → x ∈ an f := by
  refine ind (P := fun f => ∀ x, x ∈ fv f → x ∈ an f) (fun f ih x hx => ?_) f
  rw [an_kids]
  rcases (fv_kids f x).mp hx with ⟨h, _⟩ | h
  · obtain ⟨g, hg, h⟩ := mem_fvs.mp h
    exact .inr (.inr (.inr (.inr (mem_ans.mpr ⟨g, hg, ih g hg x h⟩))))
  · exact .inl h
/-! ### first-order; without some and all -/
mutual
def fo : Fm → Bool
  | rel _ _ => true
  | cmp _ _ _ => true
  | neg f => fo f
  | jn _ fs => fos fs
  | qu _ _ f => fo f
  | fx _ _ _ _ _ => false
  | tc _ _ _ => false
  | gs _ _ _ => false
def fos : List Fm → Bool
  | [] => true
  | f :: fs => fo f && fos fs
end
theorem fos_all : ∀ {fs : List Fm}, fos fs = true ↔ ∀ f ∈ fs, fo f = true
  | [] => by simp [fos]
  | f :: r => by simp [fos, fos_all (fs := r)]
mutual
def qf : Fm → Bool
  | rel _ _ => true
  | cmp _ _ _ => true
  | neg f => qf f
  | jn _ fs => qfs fs
  | qu _ _ _ => false
  | fx _ _ _ _ _ => false
  | tc _ _ _ => false
  | gs _ _ _ => false
def qfs : List Fm → Bool
  | [] => true
  | f :: fs => qf f && qfs fs
end
theorem qfs_all : ∀ {fs : List Fm}, qfs fs = true ↔ ∀ f ∈ fs, qf f = true
  | [] => by simp [qfs]
  | f :: r => by simp [qfs, qfs_all (fs := r)]
end Fm
end Say
set_option maxRecDepth 100000
set_option maxHeartbeats 4000000
/-! what a first-order formula means; negations inward, renaming, quantifiers outside: they keep the meaning -/
namespace Say
open PySem Fm
abbrev Val := Str → Int
/-- the variables' values, changed one after another -/
def put {α : Type} (r : Str → α) : List Str → List α → Str → α
  | v :: vs, a :: as => put (fun x => if x = v then a else r x) vs as
  | _, _ => r
/-- a tuple of elements -/
def Row (n : Nat) (w : Nat) (row : List Int) : Prop := row.length = w ∧ ∀ a ∈ row, 0 ≤ a ∧ a < (n : Int)
theorem row_ex {n : Nat} (hn : 1 ≤ n) (w : Nat) : ∃ row, Row n w row :=
  ⟨List.replicate w 0, by simp, fun a ha => by rw [List.eq_of_mem_replicate ha]; omega⟩
section
variable (I : Str → List (List Int)) (n : Nat)
mutual
def Sat : Fm → Val → Prop
  | rel nm args, r => args.map r ∈ I nm
  | cmp lt x y, r => if lt = true then r x < r y else r x = r y
  | neg f, r => ¬ Sat f r
  | jn true fs, r => SatA fs r
  | jn false fs, r => SatO fs r
  | qu true vs f, r => ∀ row, Row n vs.length row → Sat f (put r vs row)
  | qu false vs f, r => ∃ row, Row n vs.length row ∧ Sat f (put r vs row)
  | fx _ _ _ _ _, _ => False
  | tc _ _ _, _ => False
  | gs _ _ _, _ => False
def SatA : List Fm → Val → Prop
  | [], _ => True
  | f :: fs, r => Sat f r ∧ SatA fs r
def SatO : List Fm → Val → Prop
  | [], _ => False
  | f :: fs, r => Sat f r ∨ SatO fs r
end
end
/-! ### put -/
section
variable {α : Type}
theorem put_nil (r : Str → α) (as : List α) : put r [] as = r := by cases as <;> rfl
theorem put_nil2 (r : Str → α) (vs : List Str) : put r vs [] = r := by cases vs <;> rfl
theorem put_out {x : Str} : ∀ {vs : List Str} {as : List α} {r : Str → α}, x ∉ vs → put r vs as x = r x
  | [], as, r, _ => by rw [put_nil]
  | v :: vs, [], r, _ => rfl
  | v :: vs, a :: as, r, h => by
    show put _ vs as x = r x
    rw [put_out (fun m => h (List.mem_cons_of_mem _ m))]
    exact if_neg fun e => h (by rw [e]; exact List.mem_cons_self)
theorem put_congr {P : Str → Prop} : ∀ {vs : List Str} {as : List α} {r r' : Str → α}, (∀ x, P x → x ∉ vs → r x = r' x) → vs.length = as.length → ∀ x, P x → put r vs as x = put r' vs as x
  | [], as, r, r', h, _, x, hx => by rw [put_nil, put_nil]; exact h x hx (by simp)
  | v :: vs, [], r, r', _, hl, _, _ => by simp at hl
  | v :: vs, a :: as, r, r', h, hl, x, hx => by
    show put (fun y => if y = v then a else r y) vs as x = put (fun y => if y = v then a else r' y) vs as x
    refine put_congr (P := P) (fun y hy hn => ?_) (by simpa using hl) x hx
    show (if y = v then a else r y) = (if y = v then a else r' y)
    by_cases e : y = v
    · rw [if_pos e, if_pos e]
    · rw [if_neg e, if_neg e]
      exact h y hy (by simp [e, hn])
theorem put_app : ∀ {vs ws : List Str} {as bs : List α} {r : Str → α}, vs.length = as.length → put r (vs ++ ws) (as ++ bs) = put (put r vs as) ws bs
  | [], ws, [], bs, r, _ => rfl
  | [], ws, a :: as, bs, r, h => by simp at h
  | v :: vs, ws, [], bs, r, h => by simp at h
  | v :: vs, ws, a :: as, bs, r, h => by
    show put _ (vs ++ ws) (as ++ bs) = _
    rw [put_app (by simpa using h)]
    rfl
theorem put_at : ∀ {vs : List Str} {as : List α} {r : Str → α} {i : Nat} {x : Str} {a : α}, vs.Nodup → vs[i]? = some x → as[i]? = some a → put r vs as x = a
  | [], _, _, _, _, _, _, h, _ => by simp at h
  | v :: vs, [], _, _, _, _, _, _, h => by simp at h
  | v :: vs, b :: as, r, 0, x, a, nd, h1, h2 => by
    simp only [List.getElem?_cons_zero, Option.some.injEq] at h1 h2
    subst h1 h2
    show put _ vs as v = b
    rw [put_out (List.nodup_cons.mp nd).1]
    exact if_pos rfl
  | v :: vs, b :: as, r, i + 1, x, a, nd, h1, h2 => put_at (vs := vs) (as := as) (i := i) (List.nodup_cons.mp nd).2 (by simpa using h1) (by simpa using h2)
/-- at a name of the list: the value at its place -/
theorem put_mem : ∀ {vs : List Str} {as : List α} {r : Str → α} {x : Str}, vs.Nodup → vs.length = as.length → x ∈ vs → put r vs as x ∈ as := fun {vs as r x} nd hl hx => by
  obtain ⟨i, hi, e⟩ := List.mem_iff_getElem.mp hx
  have h1 : vs[i]? = some x := by rw [List.getElem?_eq_getElem hi, e]
  have h2 : as[i]? = some (as[i]'(by omega)) := List.getElem?_eq_getElem _
  rw [put_at nd h1 h2]
  exact List.getElem_mem _
end
/-! ### the meaning hangs on the free variables alone -/
section
variable {I : Str → List (List Int)} {n : Nat}
theorem satA_all : ∀ {fs : List Fm} {r : Val}, SatA I n fs r ↔ ∀ f ∈ fs, Sat I n f r
  | [], r => by simp [SatA]
  | f :: fs, r => by simp [SatA, satA_all (fs := fs)]
theorem satO_ex : ∀ {fs : List Fm} {r : Val}, SatO I n fs r ↔ ∃ f ∈ fs, Sat I n f r
  | [], r => by simp [SatO]
  | f :: fs, r => by simp [SatO, satO_ex (fs := fs)]
theorem sat_congr (f : Fm) : ∀ {r r' : Val}, (∀ x ∈ fv f, r x = r' x) → (Sat I n f r ↔ Sat I n f r') := by
  refine ind (P := fun f => ∀ {r r' : Val}, (∀ x ∈ fv f, r x = r' x) → (Sat I n f r ↔ Sat I n f r')) (fun f ih r r' h => ?_) f
  cases f with
  | rel nm args =>
    have e : args.map r = args.map r' := List.map_congr_left fun x hx => h x hx
    show args.map r ∈ I nm ↔ args.map r' ∈ I nm
    rw [e]
  | cmp lt x y =>
    have e1 := h x (by simp [fv])
    have e2 := h y (by simp [fv])
    show (if lt = true then r x < r y else r x = r y) ↔ (if lt = true then r' x < r' y else r' x = r' y)
    rw [e1, e2]
  | neg f => exact not_congr (ih f (by simp [kids]) h)
  | jn c fs =>
    have q : ∀ f ∈ fs, (Sat I n f r ↔ Sat I n f r') := fun f hf => ih f hf fun x hx => h x (mem_fvs.mpr ⟨f, hf, hx⟩)
    cases c with
    | true =>
      show SatA I n fs r ↔ SatA I n fs r'
      rw [satA_all, satA_all]
      exact ⟨fun z f hf => (q f hf).mp (z f hf), fun z f hf => (q f hf).mpr (z f hf)⟩
    | false =>
      show SatO I n fs r ↔ SatO I n fs r'
      rw [satO_ex, satO_ex]
      exact ⟨fun ⟨f, hf, z⟩ => ⟨f, hf, (q f hf).mp z⟩, fun ⟨f, hf, z⟩ => ⟨f, hf, (q f hf).mpr z⟩⟩
  | qu c vs f =>
    have q : ∀ row, Row n vs.length row → (Sat I n f (put r vs row) ↔ Sat I n f (put r' vs row)) := fun row hr =>
      ih f (by simp [kids]) fun x hx => put_congr (P := fun x => x ∈ fv f) (fun y hy hn => h y (by simp [fv, hy, hn])) hr.1.symm x hx
    cases c with
    | true => exact ⟨fun z row hr => (q row hr).mp (z row hr), fun z row hr => (q row hr).mpr (z row hr)⟩
    | false => exact ⟨fun ⟨row, hr, z⟩ => ⟨row, hr, (q row hr).mp z⟩, fun ⟨row, hr, z⟩ => ⟨row, hr, (q row hr).mpr z⟩⟩
  | fx _ _ _ _ _ => exact Iff.rfl
  | tc _ _ _ => exact Iff.rfl
  | gs _ _ _ => exact Iff.rfl
end
/-! ### negations inward -/
mutual
def mv : Bool → Fm → Fm
  | e, neg f => mv (!e) f
  | e, jn c fs => jn (c == e) (mvs e fs)
  | e, qu c vs f => qu (c == e) vs (mv e f)
  | true, f => f
  | false, f => neg f
def mvs : Bool → List Fm → List Fm
  | _, [] => []
  | e, f :: fs => mv e f :: mvs e fs
end
theorem mvs_map (e : Bool) : ∀ fs : List Fm, mvs e fs = fs.map (mv e)
  | [] => rfl
  | f :: fs => by rw [mvs, mvs_map e fs]; rfl
section
variable {I : Str → List (List Int)} {n : Nat}
theorem sat_mv (f : Fm) : ∀ (e : Bool) (r : Val), Sat I n (mv e f) r ↔ (if e = true then Sat I n f r else ¬ Sat I n f r) := by
  refine ind (P := fun f => ∀ (e : Bool) (r : Val), Sat I n (mv e f) r ↔ (if e = true then Sat I n f r else ¬ Sat I n f r)) (fun f ih e r => ?_) f
  cases f with
  | neg f =>
    have q := ih f (by simp [kids]) (!e) r
    show Sat I n (mv (!e) f) r ↔ _
    rw [q]
    cases e with
    | true => exact Iff.rfl
    | false =>
      show Sat I n f r ↔ ¬ ¬ Sat I n f r
      exact Classical.not_not.symm
  | jn c fs =>
    have q : ∀ f ∈ fs, (Sat I n (mv e f) r ↔ (if e = true then Sat I n f r else ¬ Sat I n f r)) := fun f hf => ih f hf e r
    show Sat I n (jn (c == e) (mvs e fs)) r ↔ _
    rw [mvs_map]
    cases e <;> cases c
    · show SatA I n (fs.map (mv false)) r ↔ ¬ SatO I n fs r
      rw [satA_all, satO_ex]
      constructor
      · rintro z ⟨f, hf, y⟩
        exact (q f hf).mp (z _ (List.mem_map.mpr ⟨f, hf, rfl⟩)) y
      · intro z g hg
        obtain ⟨f, hf, rfl⟩ := List.mem_map.mp hg
        exact (q f hf).mpr fun y => z ⟨f, hf, y⟩
    · show SatO I n (fs.map (mv false)) r ↔ ¬ SatA I n fs r
      rw [satA_all, satO_ex]
      constructor
      · rintro ⟨g, hg, z⟩ y
        obtain ⟨f, hf, rfl⟩ := List.mem_map.mp hg
        exact (q f hf).mp z (y f hf)
      · intro z
        obtain ⟨f, hf⟩ := Classical.not_forall.mp z
        obtain ⟨h1, h2⟩ := Classical.not_imp.mp hf
        exact ⟨_, List.mem_map.mpr ⟨f, h1, rfl⟩, (q f h1).mpr h2⟩
    · show SatO I n (fs.map (mv true)) r ↔ SatO I n fs r
      rw [satO_ex, satO_ex]
      constructor
      · rintro ⟨g, hg, z⟩
        obtain ⟨f, hf, rfl⟩ := List.mem_map.mp hg
        exact ⟨f, hf, (q f hf).mp z⟩
      · rintro ⟨f, hf, z⟩
        exact ⟨_, List.mem_map.mpr ⟨f, hf, rfl⟩, (q f hf).mpr z⟩
    · show SatA I n (fs.map (mv true)) r ↔ SatA I n fs r
      rw [satA_all, satA_all]
      constructor
      · intro z f hf
        exact (q f hf).mp (z _ (List.mem_map.mpr ⟨f, hf, rfl⟩))
      · intro z g hg
        obtain ⟨f, hf, rfl⟩ := List.mem_map.mp hg
        exact (q f hf).mpr (z f hf)
  | qu c vs f =>
    have q : ∀ r', (Sat I n (mv e f) r' ↔ (if e = true then Sat I n f r' else ¬ Sat I n f r')) := fun r' => ih f (by simp [kids]) e r'
    show Sat I n (qu (c == e) vs (mv e f)) r ↔ _
    cases e <;> cases c
    · show (∀ row, Row n vs.length row → Sat I n (mv false f) (put r vs row)) ↔ ¬ ∃ row, Row n vs.length row ∧ Sat I n f (put r vs row)
      constructor
      · rintro z ⟨row, hr, y⟩
        exact (q _).mp (z row hr) y
      · intro z row hr
        exact (q _).mpr fun y => z ⟨row, hr, y⟩
    · show (∃ row, Row n vs.length row ∧ Sat I n (mv false f) (put r vs row)) ↔ ¬ ∀ row, Row n vs.length row → Sat I n f (put r vs row)
      constructor
      · rintro ⟨row, hr, z⟩ y
        exact (q _).mp z (y row hr)
      · intro z
        obtain ⟨row, hf⟩ := Classical.not_forall.mp z
        obtain ⟨h1, h2⟩ := Classical.not_imp.mp hf
        exact ⟨row, h1, (q _).mpr h2⟩
    · show (∃ row, Row n vs.length row ∧ Sat I n (mv true f) (put r vs row)) ↔ ∃ row, Row n vs.length row ∧ Sat I n f (put r vs row)
      exact ⟨fun ⟨row, hr, z⟩ => ⟨row, hr, (q _).mp z⟩, fun ⟨row, hr, z⟩ => ⟨row, hr, (q _).mpr z⟩⟩
    · show (∀ row, Row n vs.length row → Sat I n (mv true f) (put r vs row)) ↔ ∀ row, Row n vs.length row → Sat I n f (put r vs row)
      exact ⟨fun z row hr => (q _).mp (z row hr), fun z row hr => (q _).mpr (z row hr)⟩
  | rel nm args => cases e <;> exact Iff.rfl
  | cmp lt x y => cases e <;> exact Iff.rfl
  | fx _ _ _ _ _ => cases e <;> exact Iff.rfl
  | tc _ _ _ => cases e <;> exact Iff.rfl
  | gs _ _ _ => cases e <;> exact Iff.rfl
end
/-! negations stand ahead of atoms alone -/
mutual
def nnf : Fm → Bool
  | rel _ _ => true
  | cmp _ _ _ => true
  | neg (rel _ _) => true
  | neg (cmp _ _ _) => true
  | neg _ => false
  | jn _ fs => nnfs fs
  | qu _ _ f => nnf f
  | _ => false
def nnfs : List Fm → Bool
  | [] => true
  | f :: fs => nnf f && nnfs fs
end
end Say
set_option maxRecDepth 100000
set_option maxHeartbeats 4000000
/-! names anew, quantifiers outside -/
namespace Say
open PySem Fm
/-! ### the quantifiers, and what is left within -/
abbrev Hd := Bool × List Str
mutual
def pl : Fm → List Hd × Fm
  | qu c vs f => ((c, vs) :: (pl f).1, (pl f).2)
  | jn c fs => ((pls fs).1, jn c (pls fs).2)
  | f => ([], f)
def pls : List Fm → List Hd × List Fm
  | [] => ([], [])
  | f :: fs => ((pl f).1 ++ (pls fs).1, (pl f).2 :: (pls fs).2)
end
def bv (hs : List Hd) : List Str := hs.flatMap (·.2)
theorem bv_app (a b : List Hd) : bv (a ++ b) = bv a ++ bv b := by simp [bv]
theorem bv_cons (a : Hd) (b : List Hd) : bv (a :: b) = a.2 ++ bv b := by simp [bv]
/-- the quantifiers put ahead of a formula -/
def wrap (hs : List Hd) (r : Fm) : Fm := hs.foldr (fun h f => qu h.1 h.2 f) r
theorem wrap_cons (h : Hd) (hs : List Hd) (r : Fm) : wrap (h :: hs) r = qu h.1 h.2 (wrap hs r) := rfl
theorem wrap_app (a b : List Hd) (r : Fm) : wrap (a ++ b) r = wrap a (wrap b r) := by simp [wrap]
/-- their meaning upon a predicate -/
def Wp (n : Nat) : List Hd → (Val → Prop) → Val → Prop
  | [], P, r => P r
  | (true, vs) :: hs, P, r => ∀ row, Row n vs.length row → Wp n hs P (put r vs row)
  | (false, vs) :: hs, P, r => ∃ row, Row n vs.length row ∧ Wp n hs P (put r vs row)
section
variable {I : Str → List (List Int)} {n : Nat}
theorem sat_wrap : ∀ {hs : List Hd} {f : Fm} {r : Val}, Sat I n (wrap hs f) r ↔ Wp n hs (Sat I n f) r
  | [], f, r => Iff.rfl
  | (true, vs) :: hs, f, r => by
    show (∀ row, Row n vs.length row → Sat I n (wrap hs f) (put r vs row)) ↔ ∀ row, Row n vs.length row → Wp n hs (Sat I n f) (put r vs row)
    exact ⟨fun z row h => sat_wrap.mp (z row h), fun z row h => sat_wrap.mpr (z row h)⟩
  | (false, vs) :: hs, f, r => by
    show (∃ row, Row n vs.length row ∧ Sat I n (wrap hs f) (put r vs row)) ↔ ∃ row, Row n vs.length row ∧ Wp n hs (Sat I n f) (put r vs row)
    exact ⟨fun ⟨row, h, z⟩ => ⟨row, h, sat_wrap.mp z⟩, fun ⟨row, h, z⟩ => ⟨row, h, sat_wrap.mpr z⟩⟩
theorem wp_congr : ∀ {hs : List Hd} {P P' : Val → Prop} {r : Val}, (∀ r', P r' ↔ P' r') → (Wp n hs P r ↔ Wp n hs P' r)
  | [], P, P', r, h => h r
  | (true, vs) :: hs, P, P', r, h => by
    show (∀ row, Row n vs.length row → Wp n hs P (put r vs row)) ↔ ∀ row, Row n vs.length row → Wp n hs P' (put r vs row)
    exact ⟨fun z row y => (wp_congr h).mp (z row y), fun z row y => (wp_congr h).mpr (z row y)⟩
  | (false, vs) :: hs, P, P', r, h => by
    show (∃ row, Row n vs.length row ∧ Wp n hs P (put r vs row)) ↔ ∃ row, Row n vs.length row ∧ Wp n hs P' (put r vs row)
    exact ⟨fun ⟨row, y, z⟩ => ⟨row, y, (wp_congr h).mp z⟩, fun ⟨row, y, z⟩ => ⟨row, y, (wp_congr h).mpr z⟩⟩
theorem wp_app : ∀ {a b : List Hd} {P : Val → Prop} {r : Val}, Wp n (a ++ b) P r ↔ Wp n a (Wp n b P) r
  | [], b, P, r => Iff.rfl
  | (true, vs) :: a, b, P, r => by
    show (∀ row, Row n vs.length row → Wp n (a ++ b) P (put r vs row)) ↔ ∀ row, Row n vs.length row → Wp n a (Wp n b P) (put r vs row)
    exact ⟨fun z row y => wp_app.mp (z row y), fun z row y => wp_app.mpr (z row y)⟩
  | (false, vs) :: a, b, P, r => by
    show (∃ row, Row n vs.length row ∧ Wp n (a ++ b) P (put r vs row)) ↔ ∃ row, Row n vs.length row ∧ Wp n a (Wp n b P) (put r vs row)
    exact ⟨fun ⟨row, y, z⟩ => ⟨row, y, wp_app.mp z⟩, fun ⟨row, y, z⟩ => ⟨row, y, wp_app.mpr z⟩⟩
def opj (c : Bool) (A B : Prop) : Prop := if c = true then A ∧ B else A ∨ B
theorem opj_comm {c : Bool} {A B : Prop} : opj c A B ↔ opj c B A := by
  cases c
  · exact Or.comm
  · exact And.comm
theorem opj_congr {c : Bool} {A A' B B' : Prop} (h1 : A ↔ A') (h2 : B ↔ B') : opj c A B ↔ opj c A' B' := by
  cases c
  · exact or_congr h1 h2
  · exact and_congr h1 h2
/-- a part in which the quantifiers' variables are not free may stand outside -/
theorem wp_op {c : Bool} (hn : 1 ≤ n) : ∀ {hs : List Hd} {P Q : Val → Prop} {r : Val}, (∀ r r' : Val, (∀ x, x ∉ bv hs → r x = r' x) → (Q r ↔ Q r')) → (Wp n hs (fun r => opj c (P r) (Q r)) r ↔ opj c (Wp n hs P r) (Q r))
  | [], P, Q, r, _ => Iff.rfl
  | (b, vs) :: hs, P, Q, r, h => by
    have h1 : ∀ r r' : Val, (∀ x, x ∉ bv hs → r x = r' x) → (Q r ↔ Q r') := fun r r' z => h r r' fun x hx => z x fun m => hx (by rw [bv_cons]; exact List.mem_append_right _ m)
    have h2 : ∀ row, (Q (put r vs row) ↔ Q r) := fun row => h _ _ fun x hx => put_out fun m => hx (by rw [bv_cons]; exact List.mem_append_left _ m)
    have q : ∀ row, (Wp n hs (fun r => opj c (P r) (Q r)) (put r vs row) ↔ opj c (Wp n hs P (put r vs row)) (Q r)) := fun row => (wp_op hn h1).trans (opj_congr Iff.rfl (h2 row))
    obtain ⟨row0, hr0⟩ := row_ex hn vs.length
    cases b with
    | true =>
      show (∀ row, Row n vs.length row → Wp n hs (fun r => opj c (P r) (Q r)) (put r vs row)) ↔ opj c (∀ row, Row n vs.length row → Wp n hs P (put r vs row)) (Q r)
      cases c with
      | true => exact ⟨fun z => ⟨fun row y => ((q row).mp (z row y)).1, ((q row0).mp (z row0 hr0)).2⟩, fun ⟨z1, z2⟩ row y => (q row).mpr ⟨z1 row y, z2⟩⟩
      | false =>
        constructor
        · intro z
          by_cases hq : Q r
          · exact .inr hq
          · exact .inl fun row y => ((q row).mp (z row y)).resolve_right hq
        · rintro (z | z) row y
          · exact (q row).mpr (.inl (z row y))
          · exact (q row).mpr (.inr z)
    | false =>
      show (∃ row, Row n vs.length row ∧ Wp n hs (fun r => opj c (P r) (Q r)) (put r vs row)) ↔ opj c (∃ row, Row n vs.length row ∧ Wp n hs P (put r vs row)) (Q r)
      cases c with
      | true => exact ⟨fun ⟨row, y, z⟩ => ⟨⟨row, y, ((q row).mp z).1⟩, ((q row).mp z).2⟩, fun ⟨⟨row, y, z1⟩, z2⟩ => ⟨row, y, (q row).mpr ⟨z1, z2⟩⟩⟩
      | false =>
        constructor
        · rintro ⟨row, y, z⟩
          rcases (q row).mp z with z | z
          · exact .inl ⟨row, y, z⟩
          · exact .inr z
        · rintro (⟨row, y, z⟩ | z)
          · exact ⟨row, y, (q row).mpr (.inl z)⟩
          · exact ⟨row0, hr0, (q row0).mpr (.inr z)⟩
end
/-! ### each bound variable once -/
mutual
def Spr : Fm → List Str → List Str → List Str → Prop
  | rel _ args, C, U, U' => (∀ x ∈ args, x ∈ C) ∧ U' = U
  | cmp _ x y, C, U, U' => (x ∈ C ∧ y ∈ C) ∧ U' = U
  | neg f, C, U, U' => Spr f C U U'
  | jn _ fs, C, U, U' => Sprs fs C U U'
  | qu _ vs f, C, U, U' => (vs.Nodup ∧ ∀ x ∈ vs, x ∉ U) ∧ Spr f (C ++ vs) (U ++ vs) U'
  | fx _ _ _ _ _, _, _, _ => False
  | tc _ _ _, _, _, _ => False
  | gs _ _ _, _, _, _ => False
def Sprs : List Fm → List Str → List Str → List Str → Prop
  | [], _, U, U' => U' = U
  | f :: fs, C, U, U' => ∃ U1, Spr f C U U1 ∧ Sprs fs C U1 U'
end
/-- what the quantifiers and the rest are of such a formula -/
structure PlOk (hs : List Hd) (C U U' : List Str) (F : List Str) : Prop where
  used : U' = U ++ bv hs
  nd : (bv hs).Nodup
  out : ∀ x ∈ bv hs, x ∉ U
  fr : ∀ x ∈ F, x ∈ C ∨ x ∈ bv hs
theorem neg_pl {f : Fm} (h : nnf (neg f) = true) : (∃ nm args, f = rel nm args) ∨ ∃ b x y, f = cmp b x y := by
  cases f with
  | rel nm args => exact .inl ⟨nm, args, rfl⟩
  | cmp b x y => exact .inr ⟨b, x, y, rfl⟩
  | _ => cases h
theorem nnfs_all : ∀ {fs : List Fm}, nnfs fs = true ↔ ∀ f ∈ fs, nnf f = true
  | [] => by simp [nnfs]
  | f :: r => by simp [nnfs, nnfs_all (fs := r)]
theorem sps_ok : ∀ {fs : List Fm} {C U U' : List Str}, (∀ f ∈ fs, ∀ C U U', Spr f C U U' → (∀ x ∈ C, x ∈ U) → nnf f = true → PlOk (pl f).1 C U U' (fv (pl f).2)) → Sprs fs C U U' → (∀ x ∈ C, x ∈ U) → nnfs fs = true →
    PlOk (pls fs).1 C U U' (fvs (pls fs).2)
  | [], C, U, U', _, h, _, _ => by
    have h : U' = U := h
    exact ⟨by simp [pls, bv, h], by simp [pls, bv], by simp [pls, bv], by simp [pls, fvs]⟩
  | f :: fs, C, U, U', ih, h, hc, hn => by
    obtain ⟨U1, h1, h2⟩ := h
    have hn : (nnf f && nnfs fs) = true := hn
    obtain ⟨n1, n2⟩ := Bool.and_eq_true_iff.mp hn
    have p1 := ih f List.mem_cons_self C U U1 h1 hc n1
    have hc2 : ∀ x ∈ C, x ∈ U1 := fun x hx => by rw [p1.used]; exact List.mem_append_left _ (hc x hx)
    have p2 := sps_ok (fun g hg => ih g (List.mem_cons_of_mem _ hg)) h2 hc2 n2
    have eb : bv (pls (f :: fs)).1 = bv (pl f).1 ++ bv (pls fs).1 := by rw [pls, bv_app]
    refine ⟨?_, ?_, ?_, ?_⟩
    · rw [eb, p2.used, p1.used, List.append_assoc]
    · rw [eb]
      refine List.nodup_append.mpr ⟨p1.nd, p2.nd, fun a ha b hb e => ?_⟩
      subst e
      exact p2.out a hb (by rw [p1.used]; exact List.mem_append_right _ ha)
    · rw [eb]
      intro x hx
      rcases List.mem_append.mp hx with m | m
      · exact p1.out x m
      · exact fun z => p2.out x m (by rw [p1.used]; exact List.mem_append_left _ z)
    · rw [eb]
      intro x hx
      have hx : x ∈ fv (pl f).2 ++ fvs (pls fs).2 := hx
      rcases List.mem_append.mp hx with m | m
      · rcases p1.fr x m with z | z
        · exact .inl z
        · exact .inr (List.mem_append_left _ z)
      · rcases p2.fr x m with z | z
        · exact .inl z
        · exact .inr (List.mem_append_right _ z)
theorem sp_ok (f : Fm) : ∀ C U U', Spr f C U U' → (∀ x ∈ C, x ∈ U) → nnf f = true → PlOk (pl f).1 C U U' (fv (pl f).2) := by
  refine ind (P := fun f => ∀ C U U', Spr f C U U' → (∀ x ∈ C, x ∈ U) → nnf f = true → PlOk (pl f).1 C U U' (fv (pl f).2)) (fun f ih C U U' h hc hn => ?_) f
  cases f with
  | rel nm args =>
    obtain ⟨h1, h2⟩ := h
    exact ⟨by simp [pl, bv, h2], by simp [pl, bv], by simp [pl, bv], fun x hx => .inl (h1 x hx)⟩
  | cmp b x y =>
    obtain ⟨⟨h1, h1'⟩, h2⟩ := h
    refine ⟨by simp [pl, bv, h2], by simp [pl, bv], by simp [pl, bv], fun z hz => ?_⟩
    have hz : z ∈ [x, y] := hz
    simp only [List.mem_cons, List.not_mem_nil, or_false] at hz
    rcases hz with e | e
    · rw [e]; exact .inl h1
    · rw [e]; exact .inl h1'
  | neg f =>
    rcases neg_pl hn with ⟨nm, args, rfl⟩ | ⟨b, x, y, rfl⟩
    · obtain ⟨h1, h2⟩ := h
      exact ⟨by simp [pl, bv, h2], by simp [pl, bv], by simp [pl, bv], fun x hx => .inl (h1 x hx)⟩
    · obtain ⟨⟨h1, h1'⟩, h2⟩ := h
      refine ⟨by simp [pl, bv, h2], by simp [pl, bv], by simp [pl, bv], fun z hz => ?_⟩
      have hz : z ∈ [x, y] := hz
      simp only [List.mem_cons, List.not_mem_nil, or_false] at hz
      rcases hz with e | e
      · rw [e]; exact .inl h1
      · rw [e]; exact .inl h1'
  | jn c fs => exact sps_ok (fun f hf => ih f hf) h hc hn
  | qu c vs f =>
    obtain ⟨⟨h1, h2⟩, h3⟩ := h
    have hc2 : ∀ x ∈ C ++ vs, x ∈ U ++ vs := fun x hx => (List.mem_append.mp hx).elim (fun m => List.mem_append_left _ (hc x m)) fun m => List.mem_append_right _ m
    have p := ih f (by simp [kids]) (C ++ vs) (U ++ vs) U' h3 hc2 hn
    have eb : bv (pl (qu c vs f)).1 = vs ++ bv (pl f).1 := by rw [pl, bv_cons]
    refine ⟨?_, ?_, ?_, ?_⟩
    · rw [eb, p.used, List.append_assoc]
    · rw [eb]
      refine List.nodup_append.mpr ⟨h1, p.nd, fun a ha b hb e => ?_⟩
      subst e
      exact p.out a hb (List.mem_append_right _ ha)
    · rw [eb]
      intro x hx
      rcases List.mem_append.mp hx with m | m
      · exact h2 x m
      · exact fun z => p.out x m (List.mem_append_left _ z)
    · rw [eb]
      intro x hx
      rcases p.fr x hx with z | z
      · rcases List.mem_append.mp z with z | z
        · exact .inl z
        · exact .inr (List.mem_append_left _ z)
      · exact .inr (List.mem_append_right _ z)
  | fx _ _ _ _ _ => exact h.elim
  | tc _ _ _ => exact h.elim
  | gs _ _ _ => exact h.elim
/-! ### the meaning is kept -/
section
variable {I : Str → List (List Int)} {n : Nat}
def SatJ (I : Str → List (List Int)) (n : Nat) (c : Bool) (fs : List Fm) (r : Val) : Prop := Sat I n (jn c fs) r
theorem satJ_cons {c : Bool} {f : Fm} {fs : List Fm} {r : Val} : SatJ I n c (f :: fs) r ↔ opj c (Sat I n f r) (SatJ I n c fs r) := by
  cases c <;> exact Iff.rfl
theorem fv_sp (f : Fm) : ∀ C U U', Spr f C U U' → ∀ x ∈ fv f, x ∈ C := by
  refine ind (P := fun f => ∀ C U U', Spr f C U U' → ∀ x ∈ fv f, x ∈ C) (fun f ih C U U' h x hx => ?_) f
  have lst : ∀ fs : List Fm, (∀ g ∈ fs, ∀ C U U', Spr g C U U' → ∀ x ∈ fv g, x ∈ C) → ∀ U U', Sprs fs C U U' → x ∈ fvs fs → x ∈ C := by
    intro fs
    induction fs with
    | nil => intro _ U U' _ m; simp [fvs] at m
    | cons g r ih2 =>
      intro q U U' ⟨U1, a, b⟩ m
      rcases List.mem_append.mp (show x ∈ fv g ++ fvs r from m) with m | m
      · exact q g List.mem_cons_self C U U1 a x m
      · exact ih2 (fun g hg => q g (List.mem_cons_of_mem _ hg)) U1 U' b m
  cases f with
  | rel nm args => exact h.1 x hx
  | cmp b u v =>
    have hx : x ∈ [u, v] := hx
    simp only [List.mem_cons, List.not_mem_nil, or_false] at hx
    rcases hx with e | e
    · rw [e]; exact h.1.1
    · rw [e]; exact h.1.2
  | neg f => exact ih f (by simp [kids]) C U U' h x hx
  | jn c fs => exact lst fs (fun g hg => ih g hg) U U' h hx
  | qu c vs f =>
    obtain ⟨m1, m2⟩ := List.mem_filter.mp (show x ∈ (fv f).filter fun x => !vs.contains x from hx)
    rcases List.mem_append.mp (ih f (by simp [kids]) _ _ _ h.2 x m1) with z | z
    · exact z
    · simp [z] at m2
  | fx _ _ _ _ _ => exact h.elim
  | tc _ _ _ => exact h.elim
  | gs _ _ _ => exact h.elim
theorem sps_in {C : List Str} {x : Str} : ∀ {fs : List Fm} {U U' : List Str}, Sprs fs C U U' → x ∈ fvs fs → x ∈ C
  | [], _, _, _, m => by simp [fvs] at m
  | g :: r, U, U', ⟨U1, a, b⟩, m => by
    rcases List.mem_append.mp (show x ∈ fv g ++ fvs r from m) with m | m
    · exact fv_sp g C U U1 a x m
    · exact sps_in b m
theorem satJ_congr {c : Bool} {fs : List Fm} {r r' : Val} (h : ∀ x ∈ fvs fs, r x = r' x) : SatJ I n c fs r ↔ SatJ I n c fs r' := sat_congr (jn c fs) h
theorem sat_pls (hn : 1 ≤ n) {c : Bool} : ∀ {fs : List Fm} {C U U' : List Str}, (∀ f ∈ fs, ∀ C U U', Spr f C U U' → (∀ x ∈ C, x ∈ U) → nnf f = true → ∀ r, Wp n (pl f).1 (Sat I n (pl f).2) r ↔ Sat I n f r) → Sprs fs C U U' → (∀ x ∈ C, x ∈ U) → nnfs fs = true →
    ∀ r, Wp n (pls fs).1 (SatJ I n c (pls fs).2) r ↔ SatJ I n c fs r
  | [], C, U, U', _, h, _, _, r => Iff.rfl
  | f :: fs, C, U, U', ih, h, hc, hnn, r => by
    obtain ⟨U1, h1, h2⟩ := h
    obtain ⟨n1, n2⟩ := Bool.and_eq_true_iff.mp (show (nnf f && nnfs fs) = true from hnn)
    have p1 := sp_ok f C U U1 h1 hc n1
    have hc2 : ∀ x ∈ C, x ∈ U1 := fun x hx => by rw [p1.used]; exact List.mem_append_left _ (hc x hx)
    have p2 := sps_ok (fun g _ => sp_ok g) h2 hc2 n2
    have q1 := ih f List.mem_cons_self C U U1 h1 hc n1
    have q2 := sat_pls hn (c := c) (fun g hg => ih g (List.mem_cons_of_mem _ hg)) h2 hc2 n2
    have e1 : (pls (f :: fs)).1 = (pl f).1 ++ (pls fs).1 := by rw [pls]
    have e2 : (pls (f :: fs)).2 = (pl f).2 :: (pls fs).2 := by rw [pls]
    rw [e1, e2, wp_app, satJ_cons]
    -- within: the first one's rest does not speak of the others' variables
    have s1 : ∀ r', Wp n (pls fs).1 (SatJ I n c ((pl f).2 :: (pls fs).2)) r' ↔ opj c (Sat I n (pl f).2 r') (SatJ I n c fs r') := fun r' => by
      refine (wp_congr (P' := fun r => opj c (SatJ I n c (pls fs).2 r) (Sat I n (pl f).2 r)) fun r2 => satJ_cons.trans opj_comm).trans ?_
      refine (wp_op hn (P := SatJ I n c (pls fs).2) (Q := Sat I n (pl f).2) fun a b hab => sat_congr _ fun x hx => hab x fun m => ?_).trans ?_
      · refine p2.out x m ?_
        rw [p1.used]
        rcases p1.fr x hx with z | z
        · exact List.mem_append_left _ (hc x z)
        · exact List.mem_append_right _ z
      · exact (opj_congr (q2 r') Iff.rfl).trans opj_comm
    refine (wp_congr s1).trans ?_
    refine (wp_op hn (P := Sat I n (pl f).2) (Q := SatJ I n c fs) fun a b hab => satJ_congr fun x hx => hab x fun m => ?_).trans (opj_congr (q1 r) Iff.rfl)
    exact p1.out x m (hc x (sps_in h2 hx))
theorem sat_pl (hn : 1 ≤ n) (f : Fm) : ∀ C U U', Spr f C U U' → (∀ x ∈ C, x ∈ U) → nnf f = true → ∀ r, Wp n (pl f).1 (Sat I n (pl f).2) r ↔ Sat I n f r := by
  refine ind (P := fun f => ∀ C U U', Spr f C U U' → (∀ x ∈ C, x ∈ U) → nnf f = true → ∀ r, Wp n (pl f).1 (Sat I n (pl f).2) r ↔ Sat I n f r) (fun f ih C U U' h hc hnn r => ?_) f
  cases f with
  | rel nm args => exact Iff.rfl
  | cmp b x y => exact Iff.rfl
  | neg f => exact Iff.rfl
  | jn c fs => exact sat_pls hn (c := c) (fun g hg => ih g hg) h hc hnn r
  | qu c vs f =>
    obtain ⟨⟨h1, h2⟩, h3⟩ := h
    have hc2 : ∀ x ∈ C ++ vs, x ∈ U ++ vs := fun x hx => (List.mem_append.mp hx).elim (fun m => List.mem_append_left _ (hc x m)) fun m => List.mem_append_right _ m
    have q := ih f (by simp [kids]) (C ++ vs) (U ++ vs) U' h3 hc2 hnn
    cases c with
    | true => exact ⟨fun z row y => (q _).mp (z row y), fun z row y => (q _).mpr (z row y)⟩
    | false => exact ⟨fun ⟨row, y, z⟩ => ⟨row, y, (q _).mp z⟩, fun ⟨row, y, z⟩ => ⟨row, y, (q _).mpr z⟩⟩
  | fx _ _ _ _ _ => exact h.elim
  | tc _ _ _ => exact h.elim
  | gs _ _ _ => exact h.elim
end
/-! ### neighbours of one kind put together -/
def gstep (acc : List Hd) (h : Hd) : List Hd := match acc.getLast? with
  | some l => if l.1 = h.1 ∧ l.2.length + h.2.length ≤ 6 then acc.dropLast ++ [(l.1, l.2 ++ h.2)] else acc ++ [h]
  | none => [h]
def gt (hs : List Hd) : List Hd := hs.foldl gstep []
theorem getLast_split {α : Type} {acc : List α} {l : α} (h : acc.getLast? = some l) : acc = acc.dropLast ++ [l] := by
  obtain ⟨r, e⟩ := List.getLast?_eq_some_iff.mp h
  rw [e]; simp
section
variable {n : Nat}
theorem row_app {a b : Nat} {r1 r2 : List Int} (h1 : Row n a r1) (h2 : Row n b r2) : Row n (a + b) (r1 ++ r2) := ⟨by simp [h1.1, h2.1], fun x hx => (List.mem_append.mp hx).elim (h1.2 x) (h2.2 x)⟩
theorem row_cut {a b : Nat} {r : List Int} (h : Row n (a + b) r) : Row n a (r.take a) ∧ Row n b (r.drop a) :=
  ⟨⟨by rw [List.length_take, h.1]; omega, fun x hx => h.2 x (List.mem_of_mem_take hx)⟩, ⟨by rw [List.length_drop, h.1]; omega, fun x hx => h.2 x (List.mem_of_mem_drop hx)⟩⟩
theorem wp_two {c : Bool} {vs ws : List Str} {P : Val → Prop} {r : Val} : Wp n [(c, vs ++ ws)] P r ↔ Wp n [(c, vs), (c, ws)] P r := by
  have e : ∀ r1 r2 : List Int, Row n vs.length r1 → put r (vs ++ ws) (r1 ++ r2) = put (put r vs r1) ws r2 := fun r1 r2 h => put_app h.1.symm
  cases c with
  | true =>
    show (∀ row, Row n (vs ++ ws).length row → P (put r (vs ++ ws) row)) ↔ ∀ r1, Row n vs.length r1 → ∀ r2, Row n ws.length r2 → P (put (put r vs r1) ws r2)
    rw [List.length_append]
    constructor
    · intro z r1 h1 r2 h2
      rw [← e r1 r2 h1]
      exact z _ (row_app h1 h2)
    · intro z row h
      obtain ⟨h1, h2⟩ := row_cut h
      have q := z _ h1 _ h2
      rw [← e _ _ h1, List.take_append_drop] at q
      exact q
  | false =>
    show (∃ row, Row n (vs ++ ws).length row ∧ P (put r (vs ++ ws) row)) ↔ ∃ r1, Row n vs.length r1 ∧ ∃ r2, Row n ws.length r2 ∧ P (put (put r vs r1) ws r2)
    rw [List.length_append]
    constructor
    · rintro ⟨row, h, z⟩
      obtain ⟨h1, h2⟩ := row_cut h
      refine ⟨_, h1, _, h2, ?_⟩
      rw [← e _ _ h1, List.take_append_drop]
      exact z
    · rintro ⟨r1, h1, r2, h2, z⟩
      refine ⟨_, row_app h1 h2, ?_⟩
      rw [e r1 r2 h1]
      exact z
theorem wp_gstep {acc : List Hd} {h : Hd} {P : Val → Prop} {r : Val} : Wp n (gstep acc h) P r ↔ Wp n (acc ++ [h]) P r := by
  unfold gstep
  cases e : acc.getLast? with
  | none =>
    have e2 : acc = [] := List.getLast?_eq_none_iff.mp e
    rw [e2]
    exact Iff.rfl
  | some l =>
    dsimp only
    by_cases q : l.1 = h.1 ∧ l.2.length + h.2.length ≤ 6
    · rw [if_pos q]
      have e3 := getLast_split e
      rw [wp_app]
      refine Iff.trans ?_ (Iff.of_eq (congrArg (fun z => Wp n (z ++ [h]) P r) e3.symm))
      rw [List.append_assoc, wp_app]
      refine wp_congr fun r' => ?_
      show Wp n [(l.1, l.2 ++ h.2)] P r' ↔ Wp n [l, h] P r'
      have e4 : [l, h] = [(l.1, l.2), (l.1, h.2)] := by
        obtain ⟨l1, l2⟩ := l
        obtain ⟨h1, h2⟩ := h
        have q1 : l1 = h1 := q.1
        rw [q1]
      rw [e4]
      exact wp_two
    · rw [if_neg q]
theorem wp_fold : ∀ {hs acc : List Hd} {P : Val → Prop} {r : Val}, Wp n (hs.foldl gstep acc) P r ↔ Wp n (acc ++ hs) P r
  | [], acc, P, r => by simp
  | h :: hs, acc, P, r => by
    show Wp n (hs.foldl gstep (gstep acc h)) P r ↔ _
    rw [wp_fold, wp_app]
    have e : acc ++ h :: hs = acc ++ [h] ++ hs := by simp
    rw [e, wp_app (a := acc ++ [h])]
    exact wp_gstep
theorem wp_gt {hs : List Hd} {P : Val → Prop} {r : Val} : Wp n (gt hs) P r ↔ Wp n hs P r := wp_fold
end
theorem bv_gstep (acc : List Hd) (h : Hd) : bv (gstep acc h) = bv acc ++ h.2 := by
  unfold gstep
  cases e : acc.getLast? with
  | none =>
    have e2 : acc = [] := List.getLast?_eq_none_iff.mp e
    rw [e2]
    simp [bv]
  | some l =>
    dsimp only
    by_cases q : l.1 = h.1 ∧ l.2.length + h.2.length ≤ 6
    · rw [if_pos q, bv_app]
      have e3 := getLast_split e
      have e4 : bv acc = bv acc.dropLast ++ l.2 := by
        have z := congrArg bv e3
        rw [bv_app] at z
        rw [z]; simp [bv]
      rw [e4]
      simp [bv]
    · rw [if_neg q, bv_app]
      simp [bv]
theorem bv_gt (hs : List Hd) : bv (gt hs) = bv hs := by
  have all : ∀ (hs acc : List Hd), bv (hs.foldl gstep acc) = bv acc ++ bv hs := by
    intro hs
    induction hs with
    | nil => intro acc; simp [bv]
    | cons h hs ih => intro acc; rw [List.foldl_cons, ih, bv_gstep, bv_cons, List.append_assoc]
  rw [gt, all]
  simp [bv]
/-- each of them has one to six variables -/
def HdOk (h : Hd) : Prop := 1 ≤ h.2.length ∧ h.2.length ≤ 6
theorem gstep_ok {acc : List Hd} {h : Hd} (ha : ∀ q ∈ acc, HdOk q) (hh : HdOk h) : (∀ q ∈ gstep acc h, HdOk q) ∧ (gstep acc h).length ≤ acc.length + 1 := by
  unfold gstep
  cases e : acc.getLast? with
  | none =>
    refine ⟨fun q hq => ?_, by simp⟩
    rw [List.mem_singleton.mp hq]
    exact hh
  | some l =>
    dsimp only
    have e3 := getLast_split e
    by_cases z : l.1 = h.1 ∧ l.2.length + h.2.length ≤ 6
    · rw [if_pos z]
      refine ⟨fun q hq => ?_, by simp⟩
      rcases List.mem_append.mp hq with m | m
      · exact ha q (by rw [e3]; exact List.mem_append_left _ m)
      · rw [List.mem_singleton.mp m]
        have := hh.1
        exact ⟨by show 1 ≤ (l.2 ++ h.2).length; rw [List.length_append]; omega, by show (l.2 ++ h.2).length ≤ 6; rw [List.length_append]; omega⟩
    · rw [if_neg z]
      refine ⟨fun q hq => ?_, by simp⟩
      rcases List.mem_append.mp hq with m | m
      · exact ha q m
      · rw [List.mem_singleton.mp m]
        exact hh
theorem gt_ok {hs : List Hd} (h : ∀ q ∈ hs, HdOk q) : (∀ q ∈ gt hs, HdOk q) ∧ (gt hs).length ≤ hs.length := by
  have all : ∀ (hs acc : List Hd), (∀ q ∈ hs, HdOk q) → (∀ q ∈ acc, HdOk q) → (∀ q ∈ hs.foldl gstep acc, HdOk q) ∧ (hs.foldl gstep acc).length ≤ acc.length + hs.length := by
    intro hs
    induction hs with
    | nil => intro acc _ ha; exact ⟨ha, Nat.le_refl _⟩
    | cons h hs ih =>
      intro acc hh ha
      obtain ⟨a1, a2⟩ := gstep_ok ha (hh h List.mem_cons_self)
      obtain ⟨b1, b2⟩ := ih (gstep acc h) (fun q hq => hh q (List.mem_cons_of_mem _ hq)) a1
      refine ⟨b1, ?_⟩
      rw [List.foldl_cons, List.length_cons]
      omega
  obtain ⟨a, b⟩ := all hs [] h (by simp)
  refine ⟨a, ?_⟩
  show (hs.foldl gstep []).length ≤ _
  simpa using b
end Say
set_option maxRecDepth 100000
set_option maxHeartbeats 4000000
/-! well-formed formulas; the prenex form keeps all that the law asks -/
namespace Say
open PySem Fm
/-! ### names -/
def letters : Str := "abcdefghijklmnopqrstuvwxyz"
def figures : Str := "0123456789"
def wordsL : List Str := ["and", "or", "not", "some", "all", "lfp", "pfp", "tc", "guess", "true", "false"]
/-- a name of at most 12 signs -/
def nmOk (x : Str) : Prop := (1 ≤ x.length ∧ x.length ≤ 12) ∧ (x.cps.toList.head?.all fun c => letters.cps.toList.contains c) = true ∧ wordsL.contains x = false ∧
  (x.cps.toList.all fun c => letters.cps.toList.contains c || figures.cps.toList.contains c) = true
instance (x : Str) : Decidable (nmOk x) := inferInstanceAs (Decidable (_ ∧ _ ∧ _ ∧ _))
/-! ### positive in a name -/
mutual
def Oc (nm : Str) : Fm → Bool
  | rel m _ => decide (m = nm)
  | cmp _ _ _ => false
  | neg f => Oc nm f
  | jn _ fs => Ocs nm fs
  | qu _ _ f => Oc nm f
  | fx _ m _ f _ => !decide (m = nm) && Oc nm f
  | tc _ f _ => Oc nm f
  | gs m _ f => !decide (m = nm) && Oc nm f
def Ocs (nm : Str) : List Fm → Bool
  | [] => false
  | f :: fs => Oc nm f || Ocs nm fs
end
mutual
def Ag (nm : Str) : Bool → Fm → Bool
  | e, rel m _ => !decide (m = nm) || e
  | _, cmp _ _ _ => true
  | e, neg f => Ag nm (!e) f
  | e, jn _ fs => Ags nm e fs
  | e, qu _ _ f => Ag nm e f
  | e, fx l m _ f _ => decide (m = nm) || ((l || !Oc nm f) && Ag nm e f)
  | e, tc _ f _ => Ag nm e f
  | e, gs m _ f => decide (m = nm) || Ag nm e f
def Ags (nm : Str) : Bool → List Fm → Bool
  | _, [] => true
  | e, f :: fs => Ag nm e f && Ags nm e fs
end
theorem ocs_any {nm : Str} : ∀ {fs : List Fm}, Ocs nm fs = fs.any (Oc nm)
  | [] => rfl
  | f :: fs => by rw [Ocs, ocs_any (fs := fs)]; rfl
theorem ags_all {nm : Str} {e : Bool} : ∀ {fs : List Fm}, Ags nm e fs = fs.all (Ag nm e)
  | [] => rfl
  | f :: fs => by rw [Ags, ags_all (fs := fs)]; rfl
/-! ### well-formed: s0 the numbers of arguments of the free symbols, b those of the bound names -/
def setb (b : Str → Option Nat) (nm : Str) (k : Nat) : Str → Option Nat := fun x => if x = nm then some k else b x
mutual
def Wf (s0 : Str → Nat) : (Str → Option Nat) → Fm → Prop
  | b, rel nm args => nmOk nm ∧ (∀ x ∈ args, nmOk x) ∧ args.length ≤ 6 ∧ args.length = (b nm).getD (s0 nm)
  | _, cmp _ x y => nmOk x ∧ nmOk y
  | b, neg f => Wf s0 b f
  | b, jn _ fs => fs.length ≤ 40 ∧ Wfs s0 b fs
  | b, qu _ vs f => (vs.Nodup ∧ 1 ≤ vs.length ∧ vs.length ≤ 6 ∧ ∀ x ∈ vs, nmOk x) ∧ Wf s0 b f
  | b, fx l nm vs f args => nmOk nm ∧ (vs.Nodup ∧ 1 ≤ vs.length ∧ vs.length ≤ 6 ∧ ∀ x ∈ vs, nmOk x) ∧ (args.length = vs.length ∧ ∀ x ∈ args, nmOk x) ∧ Wf s0 (setb b nm vs.length) f ∧ (l = true → Ag nm true f = true)
  | b, tc vs f args => (vs.Nodup ∧ 2 ≤ vs.length ∧ vs.length ≤ 8 ∧ vs.length % 2 = 0 ∧ ∀ x ∈ vs, nmOk x) ∧ (args.length = vs.length ∧ ∀ x ∈ args, nmOk x) ∧ Wf s0 b f
  | b, gs nm ar f => nmOk nm ∧ ar ≤ 3 ∧ Wf s0 (setb b nm ar) f
def Wfs (s0 : Str → Nat) : (Str → Option Nat) → List Fm → Prop
  | _, [] => True
  | b, f :: fs => Wf s0 b f ∧ Wfs s0 b fs
end
section
variable {s0 : Str → Nat} {b : Str → Option Nat}
theorem wfs_all : ∀ {fs : List Fm}, Wfs s0 b fs ↔ ∀ f ∈ fs, Wf s0 b f
  | [] => by simp [Wfs]
  | f :: fs => by simp [Wfs, wfs_all (fs := fs)]
theorem mv_wf (f : Fm) : ∀ e, Wf s0 b f → Wf s0 b (mv e f) := by
  refine ind (P := fun f => ∀ e, Wf s0 b f → Wf s0 b (mv e f)) (fun f ih e h => ?_) f
  cases f with
  | neg f => exact ih f (by simp [kids]) (!e) h
  | jn c fs =>
    obtain ⟨h1, h2⟩ := h
    show Wf s0 b (jn (c == e) (mvs e fs))
    rw [mvs_map]
    refine ⟨by rw [List.length_map]; exact h1, wfs_all.mpr fun g hg => ?_⟩
    obtain ⟨f, hf, rfl⟩ := List.mem_map.mp hg
    exact ih f hf e (wfs_all.mp h2 f hf)
  | qu c vs f => exact ⟨h.1, ih f (by simp [kids]) e h.2⟩
  | rel nm args => cases e <;> exact h
  | cmp lt x y => cases e <;> exact h
  | fx _ _ _ _ _ => cases e <;> exact h
  | tc _ _ _ => cases e <;> exact h
  | gs _ _ _ => cases e <;> exact h
end
theorem mv_nnf (f : Fm) : ∀ e, fo f = true → nnf (mv e f) = true := by
  refine ind (P := fun f => ∀ e, fo f = true → nnf (mv e f) = true) (fun f ih e h => ?_) f
  cases f with
  | neg f => exact ih f (by simp [kids]) (!e) h
  | jn c fs =>
    show nnfs (mvs e fs) = true
    rw [mvs_map]
    refine nnfs_all.mpr fun g hg => ?_
    obtain ⟨f, hf, rfl⟩ := List.mem_map.mp hg
    exact ih f hf e (fos_all.mp h f hf)
  | qu c vs f => exact ih f (by simp [kids]) e h
  | rel nm args => cases e <;> rfl
  | cmp lt x y => cases e <;> rfl
  | fx _ _ _ _ _ => cases h
  | tc _ _ _ => cases h
  | gs _ _ _ => cases h
theorem pts_map2 {g : Fm → Fm} : ∀ {fs : List Fm}, (∀ f ∈ fs, pt (g f) ≤ 2 * pt f) → pts (fs.map g) ≤ 2 * pts fs
  | [], _ => Nat.le_refl _
  | f :: fs, h => by
    have a := h f List.mem_cons_self
    have b := pts_map2 (fs := fs) fun f hf => h f (List.mem_cons_of_mem _ hf)
    show pt (g f) + pts (fs.map g) ≤ 2 * (pt f + pts fs)
    omega
theorem dps_map1 {g : Fm → Fm} : ∀ {fs : List Fm}, (∀ f ∈ fs, dp (g f) ≤ dp f + 1) → dps (fs.map g) ≤ dps fs + 1
  | [], _ => Nat.zero_le _
  | f :: fs, h => by
    have a := h f List.mem_cons_self
    have b := dps_map1 (fs := fs) fun f hf => h f (List.mem_cons_of_mem _ hf)
    show max (dp (g f)) (dps (fs.map g)) ≤ max (dp f) (dps fs) + 1
    omega
theorem qns_map {g : Fm → Fm} : ∀ {fs : List Fm}, (∀ f ∈ fs, qn (g f) = qn f) → qns (fs.map g) = qns fs
  | [], _ => rfl
  | f :: fs, h => by
    show qn (g f) + qns (fs.map g) = qn f + qns fs
    rw [h f List.mem_cons_self, qns_map (fs := fs) fun f hf => h f (List.mem_cons_of_mem _ hf)]
/-- sizes behind negations inward -/
theorem mv_sizes (f : Fm) : ∀ e, pt (mv e f) ≤ 2 * pt f ∧ dp (mv e f) ≤ dp f + 1 ∧ qn (mv e f) = qn f := by
  refine ind (P := fun f => ∀ e, pt (mv e f) ≤ 2 * pt f ∧ dp (mv e f) ≤ dp f + 1 ∧ qn (mv e f) = qn f) (fun f ih e => ?_) f
  have hp := pt_pos f
  cases f with
  | neg f =>
    obtain ⟨a, b, c⟩ := ih f (by simp [kids]) (!e)
    refine ⟨?_, ?_, c⟩
    · show pt (mv (!e) f) ≤ 2 * (pt f + 1)
      omega
    · show dp (mv (!e) f) ≤ dp f + 1 + 1
      omega
  | jn c fs =>
    have e1 : mv e (jn c fs) = jn (c == e) (fs.map (mv e)) := by show jn (c == e) (mvs e fs) = _; rw [mvs_map]
    rw [e1]
    refine ⟨?_, ?_, ?_⟩
    · show pts (fs.map (mv e)) + 1 ≤ 2 * (pts fs + 1)
      have := pts_map2 (fs := fs) fun f hf => (ih f hf e).1
      omega
    · show dps (fs.map (mv e)) + 1 ≤ dps fs + 1 + 1
      have := dps_map1 (fs := fs) fun f hf => (ih f hf e).2.1
      omega
    · exact qns_map fun f hf => (ih f hf e).2.2
  | qu c vs f =>
    obtain ⟨a, b, d⟩ := ih f (by simp [kids]) e
    refine ⟨?_, ?_, ?_⟩
    · show pt (mv e f) + 1 ≤ 2 * (pt f + 1)
      omega
    · show dp (mv e f) + 1 ≤ dp f + 1 + 1
      omega
    · show vs.length + qn (mv e f) = vs.length + qn f
      rw [d]
  | rel nm args => cases e <;> simp [mv, pt, dp, qn]
  | cmp lt x y => cases e <;> simp [mv, pt, dp, qn]
  | fx _ _ _ f _ => cases e <;> simp [mv, pt, dp, qn] <;> omega
  | tc _ f _ => cases e <;> simp [mv, pt, dp, qn] <;> omega
  | gs _ _ f => cases e <;> simp [mv, pt, dp, qn] <;> omega
theorem mv_fv (f : Fm) : ∀ e x, x ∈ fv (mv e f) → x ∈ fv f := by
  refine ind (P := fun f => ∀ e x, x ∈ fv (mv e f) → x ∈ fv f) (fun f ih e x hx => ?_) f
  cases f with
  | neg f => exact ih f (by simp [kids]) (!e) x hx
  | jn c fs =>
    have hx : x ∈ fvs (mvs e fs) := hx
    rw [mvs_map] at hx
    obtain ⟨g, hg, m⟩ := mem_fvs.mp hx
    obtain ⟨f, hf, rfl⟩ := List.mem_map.mp hg
    exact mem_fvs.mpr ⟨f, hf, ih f hf e x m⟩
  | qu c vs f =>
    obtain ⟨m1, m2⟩ := List.mem_filter.mp (show x ∈ (fv (mv e f)).filter fun x => !vs.contains x from hx)
    exact List.mem_filter.mpr ⟨ih f (by simp [kids]) e x m1, m2⟩
  | rel nm args => cases e <;> exact hx
  | cmp lt u v => cases e <;> exact hx
  | fx _ _ _ _ _ => cases e <;> exact hx
  | tc _ _ _ => cases e <;> exact hx
  | gs _ _ _ => cases e <;> exact hx
theorem mv_sy (f : Fm) : ∀ e x, x ∈ sy (mv e f) → x ∈ sy f := by
  refine ind (P := fun f => ∀ e x, x ∈ sy (mv e f) → x ∈ sy f) (fun f ih e x hx => ?_) f
  cases f with
  | neg f => exact ih f (by simp [kids]) (!e) x hx
  | jn c fs =>
    have hx : x ∈ sys (mvs e fs) := hx
    rw [mvs_map] at hx
    obtain ⟨g, hg, m⟩ := mem_sys.mp hx
    obtain ⟨f, hf, rfl⟩ := List.mem_map.mp hg
    exact mem_sys.mpr ⟨f, hf, ih f hf e x m⟩
  | qu c vs f => exact ih f (by simp [kids]) e x hx
  | rel nm args => cases e <;> exact hx
  | cmp lt u v => cases e <;> exact hx
  | fx _ _ _ _ _ => cases e <;> exact hx
  | tc _ _ _ => cases e <;> exact hx
  | gs _ _ _ => cases e <;> exact hx
/-! ### names anew -/
mutual
def Rn : Fm → (Str → Str) → List Str → Fm → List Str → Prop
  | rel nm args, k, U, g, U' => g = rel nm (args.map k) ∧ U' = U
  | cmp b x y, k, U, g, U' => g = cmp b (k x) (k y) ∧ U' = U
  | neg f, k, U, g, U' => ∃ f', g = neg f' ∧ Rn f k U f' U'
  | jn c fs, k, U, g, U' => ∃ fs', g = jn c fs' ∧ Rns fs k U fs' U'
  | qu c vs f, k, U, g, U' => ∃ ws f', g = qu c ws f' ∧ (ws.length = vs.length ∧ ws.Nodup ∧ ∀ x ∈ ws, x ∉ U ∧ nmOk x) ∧ Rn f (put k vs ws) (U ++ ws) f' U'
  | fx _ _ _ _ _, _, _, _, _ => False
  | tc _ _ _, _, _, _, _ => False
  | gs _ _ _, _, _, _, _ => False
def Rns : List Fm → (Str → Str) → List Str → List Fm → List Str → Prop
  | [], _, U, zs, U' => zs = [] ∧ U' = U
  | f :: fs, k, U, zs, U' => ∃ g U1 r, zs = g :: r ∧ Rn f k U g U1 ∧ Rns fs k U1 r U'
end
theorem rns_snoc {k : Str → Str} {f g : Fm} {U2 : List Str} : ∀ {fs zs : List Fm} {U U1 : List Str}, Rns fs k U zs U1 → Rn f k U1 g U2 → Rns (fs ++ [f]) k U (zs ++ [g]) U2
  | [], zs, U, U1, ⟨h1, h2⟩, h => by
    subst h1 h2
    exact ⟨g, U2, [], rfl, h, rfl, rfl⟩
  | f' :: fs, zs, U, U1, ⟨g', V, r, h1, h2, h3⟩, h => by
    subst h1
    exact ⟨g', V, r ++ [g], rfl, h2, rns_snoc h3 h⟩
/-- what names anew leave: by one induction -/
structure RnOk (s0 : Str → Nat) (b : Str → Option Nat) (I : Str → List (List Int)) (n : Nat) (f : Fm) (k : Str → Str) (g : Fm) : Prop where
  wf : Wf s0 b g
  pt : pt g = pt f
  dp : dp g = dp f
  qn : qn g = qn f
  sy : sy g = sy f
  nnf : nnf f = true → nnf g = true
  sat : ∀ r : Val, Sat I n g r ↔ Sat I n f (fun x => r (k x))
section
variable {s0 : Str → Nat} {b : Str → Option Nat} {I : Str → List (List Int)} {n : Nat}
/-- the same of a list -/
structure RnsOk (s0 : Str → Nat) (b : Str → Option Nat) (I : Str → List (List Int)) (n : Nat) (fs : List Fm) (k : Str → Str) (zs : List Fm) : Prop where
  wf : Wfs s0 b zs
  len : zs.length = fs.length
  pt : pts zs = pts fs
  dp : dps zs = dps fs
  qn : qns zs = qns fs
  sy : sys zs = sys fs
  nnf : nnfs fs = true → nnfs zs = true
  satA : ∀ r : Val, SatA I n zs r ↔ SatA I n fs (fun x => r (k x))
  satO : ∀ r : Val, SatO I n zs r ↔ SatO I n fs (fun x => r (k x))
theorem rn_used (f : Fm) : ∀ {k U g U'}, Rn f k U g U' → ∀ x ∈ U, x ∈ U' := by
  refine ind (P := fun f => ∀ {k U g U'}, Rn f k U g U' → ∀ x ∈ U, x ∈ U') (fun f ih {k U g U'} h x hx => ?_) f
  have lst : ∀ fs : List Fm, (∀ g ∈ fs, ∀ {k U h U'}, Rn g k U h U' → ∀ x ∈ U, x ∈ U') → ∀ {U zs U'}, Rns fs k U zs U' → x ∈ U → x ∈ U' := by
    intro fs
    induction fs with
    | nil => intro _ U zs U' h m; rw [h.2]; exact m
    | cons g r ih2 =>
      intro q U zs U' ⟨g', U1, r', _, a, b⟩ m
      exact ih2 (fun g hg => q g (List.mem_cons_of_mem _ hg)) b (q g List.mem_cons_self a x m)
  cases f with
  | rel nm args => rw [h.2]; exact hx
  | cmp b u v => rw [h.2]; exact hx
  | neg f =>
    obtain ⟨f', _, h⟩ := h
    exact ih f (by simp [kids]) h x hx
  | jn c fs =>
    obtain ⟨fs', _, h⟩ := h
    exact lst fs (fun g hg => ih g hg) h hx
  | qu c vs f =>
    obtain ⟨ws, f', _, _, h⟩ := h
    exact ih f (by simp [kids]) h x (List.mem_append_left _ hx)
  | fx _ _ _ _ _ => exact h.elim
  | tc _ _ _ => exact h.elim
  | gs _ _ _ => exact h.elim
theorem rns_ok {k : Str → Str} : ∀ {fs : List Fm} {U U' : List Str} {zs : List Fm}, (∀ f ∈ fs, ∀ k U g U', Rn f k U g U' → Wf s0 b f → (∀ x ∈ fv f, k x ∈ U ∧ nmOk (k x)) → RnOk s0 b I n f k g) → Rns fs k U zs U' → Wfs s0 b fs → (∀ x ∈ fvs fs, k x ∈ U ∧ nmOk (k x)) →
    RnsOk s0 b I n fs k zs
  | [], U, U', zs, _, ⟨h1, h2⟩, _, _ => by
    subst h1
    exact ⟨trivial, rfl, rfl, rfl, rfl, rfl, fun h => h, fun r => Iff.rfl, fun r => Iff.rfl⟩
  | f :: fs, U, U', zs, ih, ⟨g, U1, r, h1, h2, h3⟩, ⟨w1, w2⟩, hk => by
    subst h1
    have p := ih f List.mem_cons_self k U g U1 h2 w1 fun x hx => hk x (List.mem_append_left _ hx)
    have q := rns_ok (fun g hg => ih g (List.mem_cons_of_mem _ hg)) h3 w2 fun x hx => ⟨rn_used f h2 _ (hk x (List.mem_append_right _ hx)).1, (hk x (List.mem_append_right _ hx)).2⟩
    refine ⟨⟨p.wf, q.wf⟩, congrArg Nat.succ q.len, ?_, ?_, ?_, ?_, fun z => ?_, fun ρ => ?_, fun ρ => ?_⟩
    · show Fm.pt g + pts r = Fm.pt f + pts fs
      rw [p.pt, q.pt]
    · show max (Fm.dp g) (dps r) = max (Fm.dp f) (dps fs)
      rw [p.dp, q.dp]
    · show Fm.qn g + qns r = Fm.qn f + qns fs
      rw [p.qn, q.qn]
    · show Fm.sy g ++ sys r = Fm.sy f ++ sys fs
      rw [p.sy, q.sy]
    · obtain ⟨z1, z2⟩ := Bool.and_eq_true_iff.mp (show (Say.nnf f && nnfs fs) = true from z)
      exact Bool.and_eq_true_iff.mpr ⟨p.nnf z1, q.nnf z2⟩
    · exact and_congr (p.sat ρ) (q.satA ρ)
    · exact or_congr (p.sat ρ) (q.satO ρ)
theorem rn_ok (f : Fm) : ∀ k U g U', Rn f k U g U' → Wf s0 b f → (∀ x ∈ fv f, k x ∈ U ∧ nmOk (k x)) → RnOk s0 b I n f k g := by
  refine ind (P := fun f => ∀ k U g U', Rn f k U g U' → Wf s0 b f → (∀ x ∈ fv f, k x ∈ U ∧ nmOk (k x)) → RnOk s0 b I n f k g) (fun f ih k U g U' h w hk => ?_) f
  cases f with
  | rel nm args =>
    obtain ⟨h1, h2⟩ := h
    subst h1
    obtain ⟨w1, w2, w3, w4⟩ := w
    refine ⟨⟨w1, fun x hx => ?_, by rw [List.length_map]; exact w3, by rw [List.length_map]; exact w4⟩, rfl, rfl, rfl, ?_, fun h => h, fun r => ?_⟩
    · obtain ⟨y, hy, e⟩ := List.mem_map.mp hx
      rw [← e]
      exact (hk y hy).2
    · show [(nm, (args.map k).length)] = [(nm, args.length)]
      rw [List.length_map]
    · show (args.map k).map r ∈ I nm ↔ args.map (fun x => r (k x)) ∈ I nm
      rw [List.map_map]
      exact Iff.rfl
  | cmp c x y =>
    obtain ⟨h1, h2⟩ := h
    subst h1
    exact ⟨⟨(hk x (by simp [fv])).2, (hk y (by simp [fv])).2⟩, rfl, rfl, rfl, rfl, fun h => h, fun r => Iff.rfl⟩
  | neg f =>
    obtain ⟨f', h1, h2⟩ := h
    subst h1
    have p := ih f (by simp [kids]) k U f' U' h2 w hk
    refine ⟨p.wf, by show Fm.pt f' + 1 = Fm.pt f + 1; rw [p.pt], by show Fm.dp f' + 1 = Fm.dp f + 1; rw [p.dp], p.qn, p.sy, fun z => ?_, fun r => not_congr (p.sat r)⟩
    rcases neg_pl z with ⟨nm, args, rfl⟩ | ⟨b, x, y, rfl⟩
    · rw [h2.1]; rfl
    · rw [h2.1]; rfl
  | jn c fs =>
    obtain ⟨fs', h1, h2⟩ := h
    subst h1
    obtain ⟨w1, w2⟩ := w
    have q : RnsOk s0 b I n fs k fs' := rns_ok (fun g hg => ih g hg) h2 w2 hk
    refine ⟨⟨by rw [q.len]; exact w1, q.wf⟩, by show pts fs' + 1 = pts fs + 1; rw [q.pt], by show dps fs' + 1 = dps fs + 1; rw [q.dp], q.qn, q.sy, q.nnf, fun r => ?_⟩
    cases c with
    | true => exact q.satA r
    | false => exact q.satO r
  | qu c vs f =>
    obtain ⟨ws, f', h1, ⟨h2, h3, h4⟩, h5⟩ := h
    subst h1
    obtain ⟨⟨w1, w2, w3, w4⟩, w5⟩ := w
    have inn : ∀ x ∈ fv f, x ∈ vs ∨ (x ∉ vs ∧ x ∈ fv (qu c vs f)) := fun x hx => by
      by_cases m : x ∈ vs
      · exact .inl m
      · exact .inr ⟨m, List.mem_filter.mpr ⟨hx, by simp [m]⟩⟩
    have hk2 : ∀ x ∈ fv f, put k vs ws x ∈ U ++ ws ∧ nmOk (put k vs ws x) := fun x hx => by
      rcases inn x hx with m | ⟨m, z⟩
      · have q := put_mem (r := k) w1 h2.symm m
        exact ⟨List.mem_append_right _ q, (h4 _ q).2⟩
      · rw [put_out m]
        exact ⟨List.mem_append_left _ (hk x z).1, (hk x z).2⟩
    have p := ih f (by simp [kids]) (put k vs ws) (U ++ ws) f' U' h5 w5 hk2
    refine ⟨⟨⟨h3, by omega, by omega, fun x hx => (h4 x hx).2⟩, p.wf⟩, by show Fm.pt f' + 1 = Fm.pt f + 1; rw [p.pt], by show Fm.dp f' + 1 = Fm.dp f + 1; rw [p.dp], by show ws.length + Fm.qn f' = vs.length + Fm.qn f; rw [p.qn, h2], p.sy, p.nnf, fun r => ?_⟩
    have q : ∀ row, Row n vs.length row → (Sat I n f' (put r ws row) ↔ Sat I n f (put (fun x => r (k x)) vs row)) := fun row hr => by
      refine (p.sat (put r ws row)).trans (sat_congr f fun x hx => ?_)
      rcases inn x hx with m | ⟨m, z⟩
      · obtain ⟨i, hi, e⟩ := List.mem_iff_getElem.mp m
        have g1 : vs[i]? = some x := by rw [List.getElem?_eq_getElem hi, e]
        have g2 : ws[i]? = some (ws[i]'(by omega)) := List.getElem?_eq_getElem _
        have g3 : row[i]? = some (row[i]'(by have := hr.1; omega)) := List.getElem?_eq_getElem _
        rw [put_at w1 g1 g2, put_at h3 g2 g3, put_at w1 g1 g3]
      · rw [put_out m, put_out m, put_out fun y => (h4 _ y).1 (hk x z).1]
    cases c with
    | true =>
      show (∀ row, Row n ws.length row → Sat I n f' (put r ws row)) ↔ ∀ row, Row n vs.length row → Sat I n f (put (fun x => r (k x)) vs row)
      rw [h2]
      exact ⟨fun z row y => (q row y).mp (z row y), fun z row y => (q row y).mpr (z row y)⟩
    | false =>
      show (∃ row, Row n ws.length row ∧ Sat I n f' (put r ws row)) ↔ ∃ row, Row n vs.length row ∧ Sat I n f (put (fun x => r (k x)) vs row)
      rw [h2]
      exact ⟨fun ⟨row, y, z⟩ => ⟨row, y, (q row y).mp z⟩, fun ⟨row, y, z⟩ => ⟨row, y, (q row y).mpr z⟩⟩
  | fx _ _ _ _ _ => exact h.elim
  | tc _ _ _ => exact h.elim
  | gs _ _ _ => exact h.elim
theorem rn_sp (f : Fm) : ∀ k U g U' C, Rn f k U g U' → Wf s0 b f → (∀ x ∈ fv f, k x ∈ C) → Spr g C U U' := by
  refine ind (P := fun f => ∀ k U g U' C, Rn f k U g U' → Wf s0 b f → (∀ x ∈ fv f, k x ∈ C) → Spr g C U U') (fun f ih k U g U' C h w hk => ?_) f
  have lst : ∀ fs : List Fm, (∀ g ∈ fs, ∀ k U h U' C, Rn g k U h U' → Wf s0 b g → (∀ x ∈ fv g, k x ∈ C) → Spr h C U U') → ∀ {U zs U'}, Rns fs k U zs U' → Wfs s0 b fs → (∀ x ∈ fvs fs, k x ∈ C) → Sprs zs C U U' := by
    intro fs
    induction fs with
    | nil => intro _ U zs U' h _ _; rw [h.1]; exact h.2
    | cons g r ih2 =>
      intro q U zs U' ⟨g', U1, r', e, a, c⟩ w hk
      subst e
      exact ⟨U1, q g List.mem_cons_self k U g' U1 C a w.1 fun x hx => hk x (List.mem_append_left _ hx), ih2 (fun g hg => q g (List.mem_cons_of_mem _ hg)) c w.2 fun x hx => hk x (List.mem_append_right _ hx)⟩
  cases f with
  | rel nm args =>
    obtain ⟨h1, h2⟩ := h
    subst h1
    refine ⟨fun x hx => ?_, h2⟩
    obtain ⟨y, hy, e⟩ := List.mem_map.mp hx
    rw [← e]
    exact hk y hy
  | cmp c x y =>
    obtain ⟨h1, h2⟩ := h
    subst h1
    exact ⟨⟨hk x (by simp [fv]), hk y (by simp [fv])⟩, h2⟩
  | neg f =>
    obtain ⟨f', h1, h2⟩ := h
    subst h1
    exact ih f (by simp [kids]) k U f' U' C h2 w hk
  | jn c fs =>
    obtain ⟨fs', h1, h2⟩ := h
    subst h1
    exact lst fs (fun g hg => ih g hg) h2 w.2 hk
  | qu c vs f =>
    obtain ⟨ws, f', h1, ⟨h2, h3, h4⟩, h5⟩ := h
    subst h1
    refine ⟨⟨h3, fun x hx => (h4 x hx).1⟩, ih f (by simp [kids]) _ _ f' U' (C ++ ws) h5 w.2 fun x hx => ?_⟩
    by_cases m : x ∈ vs
    · exact List.mem_append_right _ (put_mem w.1.1 h2.symm m)
    · rw [put_out m]
      exact List.mem_append_left _ (hk x (List.mem_filter.mpr ⟨hx, by simp [m]⟩))
  | fx _ _ _ _ _ => exact h.elim
  | tc _ _ _ => exact h.elim
  | gs _ _ _ => exact h.elim
/-! ### what is pulled out, and the rest -/
structure PlWf (s0 : Str → Nat) (b : Str → Option Nat) (g : Fm) (hs : List Hd) (r : Fm) : Prop where
  hd : ∀ h ∈ hs, HdOk h ∧ ∀ x ∈ h.2, nmOk x
  wf : Wf s0 b r
  pt : pt r ≤ pt g
  dp : dp r ≤ dp g
  len : hs.length ≤ qn g
  sy : sy r = sy g
  qf : qf r = true
theorem pl_wf (g : Fm) : Wf s0 b g → nnf g = true → PlWf s0 b g (pl g).1 (pl g).2 := by
  refine ind (P := fun g => Wf s0 b g → nnf g = true → PlWf s0 b g (pl g).1 (pl g).2) (fun g ih w hn => ?_) g
  have lst : ∀ fs : List Fm, (∀ g ∈ fs, Wf s0 b g → nnf g = true → PlWf s0 b g (pl g).1 (pl g).2) → Wfs s0 b fs → nnfs fs = true →
      (∀ h ∈ (pls fs).1, HdOk h ∧ ∀ x ∈ h.2, nmOk x) ∧ Wfs s0 b (pls fs).2 ∧ pts (pls fs).2 ≤ pts fs ∧ dps (pls fs).2 ≤ dps fs ∧ (pls fs).1.length ≤ qns fs ∧ sys (pls fs).2 = sys fs ∧ qfs (pls fs).2 = true ∧ (pls fs).2.length = fs.length := by
    intro fs
    induction fs with
    | nil => intro _ _ _; exact ⟨fun h m => (by simp [pls] at m), trivial, Nat.le_refl _, Nat.le_refl _, Nat.le_refl _, rfl, rfl, rfl⟩
    | cons g r ih2 =>
      intro q w hn
      obtain ⟨n1, n2⟩ := Bool.and_eq_true_iff.mp (show (nnf g && nnfs r) = true from hn)
      have p := q g List.mem_cons_self w.1 n1
      obtain ⟨a1, a2, a3, a4, a5, a6, a7, a8⟩ := ih2 (fun g hg => q g (List.mem_cons_of_mem _ hg)) w.2 n2
      have e1 : (pls (g :: r)).1 = (pl g).1 ++ (pls r).1 := by rw [pls]
      have e2 : (pls (g :: r)).2 = (pl g).2 :: (pls r).2 := by rw [pls]
      rw [e1, e2]
      refine ⟨fun h m => (List.mem_append.mp m).elim (p.hd h) (a1 h), ⟨p.wf, a2⟩, ?_, ?_, ?_, ?_, Bool.and_eq_true_iff.mpr ⟨p.qf, a7⟩, congrArg Nat.succ a8⟩
      · show Fm.pt (pl g).2 + pts (pls r).2 ≤ Fm.pt g + pts r
        have := p.pt
        omega
      · show max (Fm.dp (pl g).2) (dps (pls r).2) ≤ max (Fm.dp g) (dps r)
        have := p.dp
        omega
      · rw [List.length_append]
        show _ ≤ qn g + qns r
        have := p.len
        omega
      · show Fm.sy (pl g).2 ++ sys (pls r).2 = Fm.sy g ++ sys r
        rw [p.sy, a6]
  cases g with
  | rel nm args => exact ⟨fun h m => (by simp [pl] at m), w, Nat.le_refl _, Nat.le_refl _, Nat.le_refl _, rfl, rfl⟩
  | cmp c x y => exact ⟨fun h m => (by simp [pl] at m), w, Nat.le_refl _, Nat.le_refl _, Nat.le_refl _, rfl, rfl⟩
  | neg f =>
    refine ⟨fun h m => (by simp [pl] at m), w, Nat.le_refl _, Nat.le_refl _, Nat.zero_le _, rfl, ?_⟩
    rcases neg_pl hn with ⟨nm, args, rfl⟩ | ⟨b, x, y, rfl⟩ <;> rfl
  | jn c fs =>
    obtain ⟨a1, a2, a3, a4, a5, a6, a7, a8⟩ := lst fs (fun g hg => ih g hg) w.2 hn
    exact ⟨a1, ⟨by rw [a8]; exact w.1, a2⟩, Nat.succ_le_succ a3, Nat.succ_le_succ a4, a5, a6, a7⟩
  | qu c vs f =>
    have p := ih f (by simp [kids]) w.2 hn
    obtain ⟨⟨w1, w2, w3, w4⟩, _⟩ := w
    refine ⟨fun h m => ?_, p.wf, Nat.le_succ_of_le p.pt, Nat.le_succ_of_le p.dp, ?_, p.sy, p.qf⟩
    · rcases List.mem_cons.mp (show h ∈ (c, vs) :: (pl f).1 from m) with e | m
      · rw [e]
        exact ⟨⟨w2, w3⟩, w4⟩
      · exact p.hd h m
    · show ((pl f).1.length + 1) ≤ vs.length + qn f
      have := p.len
      omega
  | fx _ _ _ _ _ => cases hn
  | tc _ _ _ => cases hn
  | gs _ _ _ => cases hn
theorem pt_wrap : ∀ (hs : List Hd) (r : Fm), pt (wrap hs r) = hs.length + pt r
  | [], r => by simp [wrap]
  | h :: hs, r => by rw [wrap_cons, List.length_cons]; show pt (wrap hs r) + 1 = _; rw [pt_wrap hs r]; omega
theorem dp_wrap : ∀ (hs : List Hd) (r : Fm), dp (wrap hs r) = hs.length + dp r
  | [], r => by simp [wrap]
  | h :: hs, r => by rw [wrap_cons, List.length_cons]; show dp (wrap hs r) + 1 = _; rw [dp_wrap hs r]; omega
theorem sy_wrap : ∀ (hs : List Hd) (r : Fm), sy (wrap hs r) = sy r
  | [], r => rfl
  | h :: hs, r => sy_wrap hs r
theorem fv_wrap {x : Str} : ∀ (hs : List Hd) (r : Fm), x ∈ fv (wrap hs r) → x ∈ fv r ∧ x ∉ bv hs
  | [], r, h => ⟨h, by simp [bv]⟩
  | h :: hs, r, m => by
    obtain ⟨m1, m2⟩ := List.mem_filter.mp (show x ∈ (fv (wrap hs r)).filter fun x => !h.2.contains x from m)
    obtain ⟨a, c⟩ := fv_wrap hs r m1
    refine ⟨a, fun z => ?_⟩
    rw [bv_cons] at z
    rcases List.mem_append.mp z with z | z
    · simp [z] at m2
    · exact c z
theorem wf_wrap : ∀ (hs : List Hd) (r : Fm), Wf s0 b r → (∀ h ∈ hs, HdOk h) → (bv hs).Nodup → (∀ x ∈ bv hs, nmOk x) → Wf s0 b (wrap hs r)
  | [], r, w, _, _, _ => w
  | h :: hs, r, w, h1, h2, h3 => by
    rw [bv_cons] at h2 h3
    obtain ⟨n1, n2, _⟩ := List.nodup_append.mp h2
    have q := h1 h List.mem_cons_self
    exact ⟨⟨n1, q.1, q.2, fun x hx => h3 x (List.mem_append_left _ hx)⟩, wf_wrap hs r w (fun h hh => h1 h (List.mem_cons_of_mem _ hh)) n2 fun x hx => h3 x (List.mem_append_right _ hx)⟩
end
/-! ### the prenex form -/
/-- the form that names anew (g1) lead to -/
def prenexOf (g1 : Fm) : Fm := wrap (gt (pl g1).1) (pl g1).2
structure PxOk (s0 : Str → Nat) (f : Fm) (hs : List Hd) (r : Fm) : Prop where
  wf : Wf s0 (fun _ => none) (wrap hs r)
  pt : hs.length + pt r ≤ qn f + 2 * pt f
  dp : hs.length + dp r ≤ qn f + dp f + 1
  len : hs.length ≤ qn f
  qf : qf r = true
  fv : ∀ x ∈ fv (wrap hs r), x ∈ fv f
  sy : ∀ x ∈ sy (wrap hs r), x ∈ sy f
  sat : ∀ I n, 1 ≤ n → ∀ v : Val, Sat I n (wrap hs r) v ↔ Sat I n f v
theorem wf_fv {s0 : Str → Nat} (f : Fm) : ∀ b, Wf s0 b f → ∀ x ∈ fv f, nmOk x := by
  refine ind (P := fun f => ∀ b, Wf s0 b f → ∀ x ∈ fv f, nmOk x) (fun f ih b w x hx => ?_) f
  rcases (fv_kids f x).mp hx with ⟨h, _⟩ | h
  · obtain ⟨g, hg, hm⟩ := mem_fvs.mp h
    cases f with
    | rel nm args => cases hg
    | cmp c u v => cases hg
    | neg f => exact ih g hg b (by rw [List.mem_singleton.mp hg]; exact w) x hm
    | jn c fs => exact ih g hg b (wfs_all.mp w.2 g hg) x hm
    | qu c vs f => exact ih g hg b (by rw [List.mem_singleton.mp hg]; exact w.2) x hm
    | fx l nm vs f args => exact ih g hg _ (by rw [List.mem_singleton.mp hg]; exact w.2.2.2.1) x hm
    | tc vs f args => exact ih g hg b (by rw [List.mem_singleton.mp hg]; exact w.2.2) x hm
    | gs nm ar f => exact ih g hg _ (by rw [List.mem_singleton.mp hg]; exact w.2.2) x hm
  · cases f with
    | rel nm args => exact w.2.1 x h
    | cmp c u v =>
      have h : x ∈ [u, v] := h
      simp only [List.mem_cons, List.not_mem_nil, or_false] at h
      rcases h with e | e
      · rw [e]; exact w.1
      · rw [e]; exact w.2
    | fx l nm vs f args => exact w.2.2.1.2 x h
    | tc vs f args => exact w.2.1.2 x h
    | _ => cases h
theorem prenex_ok {s0 : Str → Nat} {f g1 : Fm} {U U' : List Str} (w : Wf s0 (fun _ => none) f) (hf : fo f = true) (hU : ∀ x ∈ fv f, x ∈ U) (h : Rn (mv true f) (fun x => x) U g1 U') :
    PxOk s0 f (gt (pl g1).1) (pl g1).2 := by
  have w1 := mv_wf (s0 := s0) (b := fun _ => none) f true w
  have n1 := mv_nnf f true hf
  obtain ⟨z1, z2, z3⟩ := mv_sizes f true
  have hk : ∀ x ∈ fv (mv true f), x ∈ U ∧ nmOk x := fun x hx => ⟨hU x (mv_fv f true x hx), wf_fv f _ w x (mv_fv f true x hx)⟩
  have R := fun I n => rn_ok (s0 := s0) (b := fun _ => none) (I := I) (n := n) (mv true f) _ U g1 U' h w1 hk
  have R0 := R (fun _ => []) 0
  have S : Spr g1 (fv f) U U' := rn_sp (s0 := s0) (b := fun _ => none) (mv true f) _ U g1 U' (fv f) h w1 fun x hx => mv_fv f true x hx
  have n2 := R0.nnf n1
  have P := sp_ok g1 (fv f) U U' S hU n2
  have W := pl_wf (s0 := s0) (b := fun _ => none) g1 R0.wf n2
  obtain ⟨g1ok, g2ok⟩ := gt_ok fun q hq => (W.hd q hq).1
  have nmb : ∀ x ∈ bv (pl g1).1, nmOk x := fun x hx => by
    obtain ⟨q, hq, m⟩ := List.mem_flatMap.mp hx
    exact (W.hd q hq).2 x m
  have e1 := W.pt
  have e2 := W.dp
  have e3 := W.len
  rw [R0.pt] at e1
  rw [R0.dp] at e2
  rw [R0.qn, z3] at e3
  refine ⟨wf_wrap _ _ W.wf g1ok (by rw [bv_gt]; exact P.nd) (by rw [bv_gt]; exact nmb), by omega, by omega, by omega, W.qf, fun x hx => ?_, fun x hx => ?_, fun I n hn v => ?_⟩
  · obtain ⟨a, c⟩ := fv_wrap _ _ hx
    rw [bv_gt] at c
    exact (P.fr x a).resolve_right c
  · rw [sy_wrap, W.sy, R0.sy] at hx
    exact mv_sy f true x hx
  · rw [sat_wrap, wp_gt]
    refine (sat_pl hn g1 (fv f) U U' S hU n2 v).trans ?_
    refine ((R I n).sat v).trans ?_
    have q := sat_mv (I := I) (n := n) f true v
    rw [if_pos rfl] at q
    exact q
end Say
set_option maxRecDepth 100000
set_option maxHeartbeats 4000000
/-! the formulas that the law draws -/
namespace Say
open PySem Fm
/-- the names at hand: name, number of arguments, mode (0 free, 1 positive, 2 negative, 3 barred) -/
abbrev Ns := List (Str × Nat × Nat)
def tmode : Nat → Nat
  | 0 => 0
  | 1 => 2
  | 2 => 1
  | _ => 3
def bmode : Nat → Nat
  | 0 => 0
  | _ => 3
def turned (ns : Ns) : Ns := ns.map fun p => (p.1, p.2.1, tmode p.2.2)
def barred (ns : Ns) : Ns := ns.map fun p => (p.1, p.2.1, bmode p.2.2)
def within (ns : Ns) (nm : Str) (k m : Nat) : Ns := ns.filter (fun p => !decide (p.1 = nm)) ++ [(nm, k, m)]
def binders : List Str := ["r", "s", "e"]
structure VsOk (pool vs : List Str) : Prop where
  nd : vs.Nodup
  one : 1 ≤ vs.length
  three : vs.length ≤ 3
  of : ∀ x ∈ vs, x ∈ pool
mutual
def Gf (q : Bool) (pool : List Str) : Fm → Ns → Prop
  | rel nm args, ns => ∃ k m, (nm, k, m) ∈ ns ∧ m < 2 ∧ args.length = k ∧ ∀ x ∈ args, x ∈ pool
  | cmp _ x y, _ => x ∈ pool ∧ y ∈ pool
  | neg f, ns => Gf q pool f (turned ns)
  | jn _ fs, ns => fs.length ≤ 3 ∧ Gfs q pool fs ns
  | qu _ vs f, ns => q = true ∧ VsOk pool vs ∧ Gf q pool f ns
  | fx l nm vs f args, ns => q = false ∧ nm ∈ binders ∧ VsOk pool vs ∧ (args.length = vs.length ∧ ∀ x ∈ args, x ∈ pool) ∧ Gf q pool f (within (if l = true then ns else barred ns) nm vs.length (if l = true then 1 else 0))
  | tc vs f args, ns => q = false ∧ (VsOk pool vs ∧ vs.length = 2) ∧ (args.length = vs.length ∧ ∀ x ∈ args, x ∈ pool) ∧ Gf q pool f ns
  | gs nm ar f, ns => q = false ∧ nm ∈ binders ∧ ar ≤ 1 ∧ Gf q pool f (within ns nm ar 0)
def Gfs (q : Bool) (pool : List Str) : List Fm → Ns → Prop
  | [], _ => True
  | f :: fs, ns => Gf q pool f ns ∧ Gfs q pool fs ns
end
theorem gfs_all {q : Bool} {pool : List Str} {ns : Ns} : ∀ {fs : List Fm}, Gfs q pool fs ns ↔ ∀ f ∈ fs, Gf q pool f ns
  | [] => by simp [Gfs]
  | f :: fs => by simp [Gfs, gfs_all (fs := fs)]
theorem mem_within {ns : Ns} {nm : Str} {k m : Nat} {p : Str × Nat × Nat} (h : p ∈ within ns nm k m) : (p ∈ ns ∧ p.1 ≠ nm) ∨ p = (nm, k, m) := by
  rcases List.mem_append.mp h with h | h
  · obtain ⟨a, b⟩ := List.mem_filter.mp h
    exact .inl ⟨a, by simpa using b⟩
  · exact .inr (List.mem_singleton.mp h)
theorem tmode_lt {m : Nat} : tmode m ≤ 3 := by
  unfold tmode; split <;> omega
theorem bmode_lt {m : Nat} : bmode m ≤ 3 := by
  unfold bmode; split <;> omega
/-- the names at hand and what is bound go together -/
def NsOk (s0 : Str → Nat) (b : Str → Option Nat) (ns : Ns) : Prop := ∀ p ∈ ns, nmOk p.1 ∧ p.2.1 ≤ 6 ∧ p.2.2 ≤ 3 ∧ (b p.1).getD (s0 p.1) = p.2.1
theorem binder_ok {nm : Str} (h : nm ∈ binders) : nmOk nm := by
  have all : ∀ x ∈ binders, nmOk x := by decide +kernel
  exact all nm h
section
variable {s0 : Str → Nat} {b : Str → Option Nat} {ns : Ns}
theorem NsOk.turned (h : NsOk s0 b ns) : NsOk s0 b (turned ns) := fun p hp => by
  obtain ⟨q, hq, rfl⟩ := List.mem_map.mp hp
  obtain ⟨a, c, _, d⟩ := h q hq
  exact ⟨a, c, tmode_lt, d⟩
theorem NsOk.barred (h : NsOk s0 b ns) : NsOk s0 b (barred ns) := fun p hp => by
  obtain ⟨q, hq, rfl⟩ := List.mem_map.mp hp
  obtain ⟨a, c, _, d⟩ := h q hq
  exact ⟨a, c, bmode_lt, d⟩
theorem NsOk.within (h : NsOk s0 b ns) {nm : Str} {k m : Nat} (hn : nmOk nm) (hk : k ≤ 6) (hm : m ≤ 3) : NsOk s0 (setb b nm k) (within ns nm k m) := fun p hp => by
  rcases mem_within hp with ⟨a, c⟩ | e
  · obtain ⟨d1, d2, d3, d4⟩ := h p a
    refine ⟨d1, d2, d3, ?_⟩
    unfold setb
    rw [if_neg c]
    exact d4
  · rw [e]
    refine ⟨hn, hk, hm, ?_⟩
    unfold setb
    rw [if_pos rfl]
    rfl
end
/-! ### signs -/
theorem oc_ag {nm : Str} (f : Fm) : ∀ e, Oc nm f = false → Ag nm e f = true := by
  refine ind (P := fun f => ∀ e, Oc nm f = false → Ag nm e f = true) (fun f ih e h => ?_) f
  cases f with
  | rel m args =>
    show (!decide (m = nm) || e) = true
    rw [show decide (m = nm) = false from h]
    rfl
  | cmp _ _ _ => rfl
  | neg f => exact ih f (by simp [kids]) (!e) h
  | jn c fs =>
    show Ags nm e fs = true
    rw [ags_all]
    have h : Ocs nm fs = false := h
    rw [ocs_any] at h
    refine List.all_eq_true.mpr fun f hf => ih f hf e ?_
    have q := List.any_eq_false.mp h f hf
    simpa using q
  | qu c vs f => exact ih f (by simp [kids]) e h
  | fx l m vs f args =>
    show (decide (m = nm) || ((l || !Oc nm f) && Ag nm e f)) = true
    have h : (!decide (m = nm) && Oc nm f) = false := h
    cases d : decide (m = nm) with
    | true => rfl
    | false =>
      rw [d] at h
      have h : Oc nm f = false := h
      rw [h, ih f (by simp [kids]) e h]
      cases l <;> rfl
  | tc vs f args => exact ih f (by simp [kids]) e h
  | gs m ar f =>
    show (decide (m = nm) || Ag nm e f) = true
    have h : (!decide (m = nm) && Oc nm f) = false := h
    cases d : decide (m = nm) with
    | true => rfl
    | false =>
      rw [d] at h
      have h : Oc nm f = false := h
      rw [ih f (by simp [kids]) e h]
      rfl
/-- the name nm, where it is at hand, has the mode m -/
def Md (nm : Str) (ns : Ns) (m : Nat) : Prop := ∀ p ∈ ns, p.1 = nm → p.2.2 = m
section
variable {nm : Str} {ns : Ns} {m : Nat}
theorem Md.turned (h : Md nm ns m) : Md nm (turned ns) (tmode m) := fun p hp e => by
  obtain ⟨q, hq, rfl⟩ := List.mem_map.mp hp
  show tmode q.2.2 = tmode m
  rw [h q hq e]
theorem Md.barred (h : Md nm ns m) : Md nm (barred ns) (bmode m) := fun p hp e => by
  obtain ⟨q, hq, rfl⟩ := List.mem_map.mp hp
  show bmode q.2.2 = bmode m
  rw [h q hq e]
theorem Md.within (h : Md nm ns m) {x : Str} {k j : Nat} (hx : x ≠ nm) : Md nm (within ns x k j) m := fun p hp e => by
  rcases mem_within hp with ⟨a, _⟩ | z
  · exact h p a e
  · rw [z] at e
    exact absurd e hx
end
/-- a name's mode tells its sign -/
theorem gf_sign {q : Bool} {pool : List Str} {nm : Str} (f : Fm) : ∀ ns, Gf q pool f ns → (Md nm ns 1 → Ag nm true f = true) ∧ (Md nm ns 2 → Ag nm false f = true) ∧ (Md nm ns 3 → Oc nm f = false) := by
  refine ind (P := fun f => ∀ ns, Gf q pool f ns → (Md nm ns 1 → Ag nm true f = true) ∧ (Md nm ns 2 → Ag nm false f = true) ∧ (Md nm ns 3 → Oc nm f = false)) (fun f ih ns h => ?_) f
  cases f with
  | rel x args =>
    obtain ⟨k, m, h1, h2, _⟩ := h
    refine ⟨fun z => ?_, fun z => ?_, fun z => ?_⟩
    · show (!decide (x = nm) || true) = true
      rw [Bool.or_true]
    · have e : x ≠ nm := fun e => by
        have y : m = 2 := z _ h1 e
        omega
      show (!decide (x = nm) || false) = true
      rw [decide_eq_false e]
      rfl
    · exact decide_eq_false fun e => by
        have y : m = 3 := z _ h1 e
        omega
  | cmp _ _ _ => exact ⟨fun _ => rfl, fun _ => rfl, fun _ => rfl⟩
  | neg f =>
    obtain ⟨a, b, c⟩ := ih f (by simp [kids]) (turned ns) h
    exact ⟨fun z => b z.turned, fun z => a z.turned, fun z => c z.turned⟩
  | jn c fs =>
    have q := fun f hf => ih f hf ns (gfs_all.mp h.2 f hf)
    refine ⟨fun z => ?_, fun z => ?_, fun z => ?_⟩
    · show Ags nm true fs = true
      rw [ags_all]
      exact List.all_eq_true.mpr fun f hf => (q f hf).1 z
    · show Ags nm false fs = true
      rw [ags_all]
      exact List.all_eq_true.mpr fun f hf => (q f hf).2.1 z
    · show Ocs nm fs = false
      rw [ocs_any]
      exact List.any_eq_false.mpr fun f hf => by rw [(q f hf).2.2 z]; decide
  | qu c vs f => exact ih f (by simp [kids]) ns h.2.2
  | fx l x vs f args =>
    obtain ⟨_, _, _, _, h⟩ := h
    by_cases e : x = nm
    · have d : decide (x = nm) = true := decide_eq_true e
      have a1 : ∀ e, Ag nm e (fx l x vs f args) = true := fun e => by
        show (decide (x = nm) || ((l || !Oc nm f) && Ag nm e f)) = true
        rw [d]
        rfl
      refine ⟨fun _ => a1 _, fun _ => a1 _, fun _ => ?_⟩
      show (!decide (x = nm) && Oc nm f) = false
      rw [d]
      rfl
    · have d : decide (x = nm) = false := decide_eq_false e
      obtain ⟨a, b, c⟩ := ih f (by simp [kids]) _ h
      cases l with
      | true =>
        have a1 : ∀ e, Ag nm e (fx true x vs f args) = Ag nm e f := fun e => by
          show (decide (x = nm) || ((true || !Oc nm f) && Ag nm e f)) = _
          rw [d]
          rfl
        refine ⟨fun z => ?_, fun z => ?_, fun z => ?_⟩
        · rw [a1]; exact a (z.within e)
        · rw [a1]; exact b (z.within e)
        · show (!decide (x = nm) && Oc nm f) = false
          rw [c (z.within e), Bool.and_false]
      | false =>
        have a1 : Oc nm f = false → ∀ e, Ag nm e (fx false x vs f args) = true := fun o e => by
          show (decide (x = nm) || ((false || !Oc nm f) && Ag nm e f)) = _
          rw [d, o, oc_ag f e o]
          rfl
        refine ⟨fun z => a1 (c (Md.within z.barred e)) _, fun z => a1 (c (Md.within z.barred e)) _, fun z => ?_⟩
        show (!decide (x = nm) && Oc nm f) = false
        rw [c (Md.within z.barred e), Bool.and_false]
  | tc vs f args => exact ih f (by simp [kids]) ns h.2.2.2
  | gs x ar f =>
    obtain ⟨_, _, _, h⟩ := h
    by_cases e : x = nm
    · have d : decide (x = nm) = true := decide_eq_true e
      have a1 : ∀ e, Ag nm e (gs x ar f) = true := fun e => by
        show (decide (x = nm) || Ag nm e f) = true
        rw [d]
        rfl
      refine ⟨fun _ => a1 _, fun _ => a1 _, fun _ => ?_⟩
      show (!decide (x = nm) && Oc nm f) = false
      rw [d]
      rfl
    · have d : decide (x = nm) = false := decide_eq_false e
      obtain ⟨a, b, c⟩ := ih f (by simp [kids]) _ h
      have a1 : ∀ e, Ag nm e (gs x ar f) = Ag nm e f := fun e => by
        show (decide (x = nm) || Ag nm e f) = _
        rw [d]
        rfl
      refine ⟨fun z => ?_, fun z => ?_, fun z => ?_⟩
      · rw [a1]; exact a (z.within e)
      · rw [a1]; exact b (z.within e)
      · show (!decide (x = nm) && Oc nm f) = false
        rw [c (z.within e), Bool.and_false]
/-- what is drawn is well-formed -/
theorem gf_wf {s0 : Str → Nat} {q : Bool} {pool : List Str} (hp : ∀ x ∈ pool, nmOk x) (f : Fm) : ∀ ns b, Gf q pool f ns → NsOk s0 b ns → Wf s0 b f := by
  refine ind (P := fun f => ∀ ns b, Gf q pool f ns → NsOk s0 b ns → Wf s0 b f) (fun f ih ns b h hn => ?_) f
  cases f with
  | rel x args =>
    obtain ⟨k, m, h1, h2, h3, h4⟩ := h
    obtain ⟨a, c, _, d⟩ := hn _ h1
    exact ⟨a, fun y hy => hp y (h4 y hy), by rw [h3]; exact c, by rw [h3]; exact d.symm⟩
  | cmp _ x y => exact ⟨hp x h.1, hp y h.2⟩
  | neg f => exact ih f (by simp [kids]) (turned ns) b h hn.turned
  | jn c fs => exact ⟨Nat.le_trans h.1 (by decide), wfs_all.mpr fun f hf => ih f hf ns b (gfs_all.mp h.2 f hf) hn⟩
  | qu c vs f =>
    obtain ⟨_, v, h⟩ := h
    exact ⟨⟨v.nd, v.one, Nat.le_trans v.three (by decide), fun x hx => hp x (v.of x hx)⟩, ih f (by simp [kids]) ns b h hn⟩
  | fx l x vs f args =>
    obtain ⟨_, hb, v, ⟨a1, a2⟩, h⟩ := h
    have bo := binder_ok hb
    have hn2 : NsOk s0 (setb b x vs.length) (within (if l = true then ns else barred ns) x vs.length (if l = true then 1 else 0)) := by
      cases l with
      | true => exact hn.within bo (Nat.le_trans v.three (by decide)) (by decide)
      | false => exact hn.barred.within bo (Nat.le_trans v.three (by decide)) (by decide)
    refine ⟨bo, ⟨v.nd, v.one, Nat.le_trans v.three (by decide), fun x hx => hp x (v.of x hx)⟩, ⟨a1, fun x hx => hp x (a2 x hx)⟩, ih f (by simp [kids]) _ _ h hn2, fun e => ?_⟩
    subst e
    refine (gf_sign f _ h).1 fun p hp e => ?_
    rcases mem_within hp with ⟨_, z⟩ | z
    · exact absurd e z
    · rw [z]
      rfl
  | tc vs f args =>
    obtain ⟨_, ⟨v, v2⟩, ⟨a1, a2⟩, h⟩ := h
    exact ⟨⟨v.nd, by omega, by omega, by rw [v2], fun x hx => hp x (v.of x hx)⟩, ⟨a1, fun x hx => hp x (a2 x hx)⟩, ih f (by simp [kids]) ns b h hn⟩
  | gs x ar f =>
    obtain ⟨_, hb, h1, h⟩ := h
    have bo := binder_ok hb
    exact ⟨bo, by omega, ih f (by simp [kids]) _ _ h (hn.within bo (by omega) (by decide))⟩
/-- how many parts -/
theorem gf_pt {q : Bool} {pool : List Str} (f : Fm) : ∀ ns, Gf q pool f ns → 2 * pt f + 1 ≤ 3 ^ dp f := by
  refine ind (P := fun f => ∀ ns, Gf q pool f ns → 2 * pt f + 1 ≤ 3 ^ dp f) (fun f ih ns h => ?_) f
  have one : ∀ g : Fm, 2 * pt g + 1 ≤ 3 ^ dp g → 2 * (pt g + 1) + 1 ≤ 3 ^ (dp g + 1) := fun g hg => by
    rw [Nat.pow_succ]
    omega
  cases f with
  | rel _ _ => show 2 * 1 + 1 ≤ 3 ^ 1; decide
  | cmp _ _ _ => show 2 * 1 + 1 ≤ 3 ^ 1; decide
  | neg f => exact one f (ih f (by simp [kids]) _ h)
  | jn c fs =>
    have all : ∀ fs : List Fm, (∀ f ∈ fs, 2 * pt f + 1 ≤ 3 ^ dp f) → 2 * pts fs + fs.length ≤ fs.length * 3 ^ dps fs := by
      intro fs
      induction fs with
      | nil => intro _; exact Nat.zero_le _
      | cons g r ih2 =>
        intro hg
        have a := hg g List.mem_cons_self
        have b := ih2 fun f hf => hg f (List.mem_cons_of_mem _ hf)
        have c1 : 3 ^ dp g ≤ 3 ^ dps (g :: r) := Nat.pow_le_pow_right (by decide) (Nat.le_max_left _ _)
        have c2 : 3 ^ dps r ≤ 3 ^ dps (g :: r) := Nat.pow_le_pow_right (by decide) (Nat.le_max_right _ _)
        have c3 : r.length * 3 ^ dps r ≤ r.length * 3 ^ dps (g :: r) := Nat.mul_le_mul_left _ c2
        show 2 * (pt g + pts r) + (r.length + 1) ≤ (r.length + 1) * 3 ^ dps (g :: r)
        have e : (r.length + 1) * 3 ^ dps (g :: r) = r.length * 3 ^ dps (g :: r) + 3 ^ dps (g :: r) := Nat.succ_mul _ _
        rw [e]
        omega
    have a := all fs fun f hf => ih f hf ns (gfs_all.mp h.2 f hf)
    have p : 1 ≤ 3 ^ dps fs := Nat.one_le_pow _ _ (by decide)
    have h3 := h.1
    show 2 * (pts fs + 1) + 1 ≤ 3 ^ (dps fs + 1)
    rw [Nat.pow_succ]
    generalize 3 ^ dps fs = y at a p
    have k : fs.length = 0 ∨ fs.length = 1 ∨ fs.length = 2 ∨ fs.length = 3 := by omega
    rcases k with k | k | k | k <;> (rw [k] at a; omega)
  | qu c vs f => exact one f (ih f (by simp [kids]) _ h.2.2)
  | fx l x vs f args => exact one f (ih f (by simp [kids]) _ h.2.2.2.2)
  | tc vs f args => exact one f (ih f (by simp [kids]) _ h.2.2.2)
  | gs x ar f => exact one f (ih f (by simp [kids]) _ h.2.2.2)
theorem gf_fo {pool : List Str} (f : Fm) : ∀ ns, Gf true pool f ns → fo f = true := by
  refine ind (P := fun f => ∀ ns, Gf true pool f ns → fo f = true) (fun f ih ns h => ?_) f
  cases f with
  | rel _ _ => rfl
  | cmp _ _ _ => rfl
  | neg f => exact ih f (by simp [kids]) _ h
  | jn c fs => exact fos_all.mpr fun f hf => ih f hf ns (gfs_all.mp h.2 f hf)
  | qu c vs f => exact ih f (by simp [kids]) _ h.2.2
  | fx l x vs f args => exact absurd h.1 (by decide)
  | tc vs f args => exact absurd h.1 (by decide)
  | gs x ar f => exact absurd h.1 (by decide)
/-- its free variables are of the pool -/
theorem gf_fv {q : Bool} {pool : List Str} (f : Fm) : ∀ ns, Gf q pool f ns → ∀ x ∈ fv f, x ∈ pool := by
  refine ind (P := fun f => ∀ ns, Gf q pool f ns → ∀ x ∈ fv f, x ∈ pool) (fun f ih ns h x hx => ?_) f
  cases f with
  | rel nm args =>
    obtain ⟨k, m, _, _, _, h4⟩ := h
    exact h4 x hx
  | cmp c u v =>
    have hx : x ∈ [u, v] := hx
    simp only [List.mem_cons, List.not_mem_nil, or_false] at hx
    rcases hx with e | e
    · rw [e]; exact h.1
    · rw [e]; exact h.2
  | neg f => exact ih f (by simp [kids]) _ h x hx
  | jn c fs =>
    obtain ⟨f, hf, m⟩ := mem_fvs.mp hx
    exact ih f hf ns (gfs_all.mp h.2 f hf) x m
  | qu c vs f => exact ih f (by simp [kids]) _ h.2.2 x (List.mem_filter.mp hx).1
  | fx l y vs f args =>
    rcases List.mem_append.mp hx with m | m
    · exact ih f (by simp [kids]) _ h.2.2.2.2 x (List.mem_filter.mp m).1
    · exact h.2.2.2.1.2 x m
  | tc vs f args =>
    rcases List.mem_append.mp hx with m | m
    · exact ih f (by simp [kids]) _ h.2.2.2 x (List.mem_filter.mp m).1
    · exact h.2.2.1.2 x m
  | gs y ar f => exact ih f (by simp [kids]) _ h.2.2.2 x hx
/-- the symbols of a first-order one are at hand -/
theorem gf_sy {pool : List Str} {P : Str × Nat → Prop} (f : Fm) : ∀ ns : Ns, (∀ p ∈ ns, P (p.1, p.2.1)) → Gf true pool f ns → ∀ x ∈ sy f, P x := by
  refine ind (P := fun f => ∀ ns : Ns, (∀ p ∈ ns, P (p.1, p.2.1)) → Gf true pool f ns → ∀ x ∈ sy f, P x) (fun f ih ns hP h x hx => ?_) f
  cases f with
  | rel nm args =>
    obtain ⟨k, m, h1, _, h3, _⟩ := h
    rw [List.mem_singleton.mp (show x ∈ [(nm, args.length)] from hx), h3]
    exact hP _ h1
  | cmp c u v => cases hx
  | neg f =>
    refine ih f (by simp [kids]) _ (fun p hp => ?_) h x hx
    obtain ⟨q, hq, rfl⟩ := List.mem_map.mp hp
    exact hP q hq
  | jn c fs =>
    obtain ⟨f, hf, m⟩ := mem_sys.mp hx
    exact ih f hf ns hP (gfs_all.mp h.2 f hf) x m
  | qu c vs f => exact ih f (by simp [kids]) _ hP h.2.2 x hx
  | fx l y vs f args => exact absurd h.1 (by decide)
  | tc vs f args => exact absurd h.1 (by decide)
  | gs y ar f => exact absurd h.1 (by decide)
/-- all its names: of the pool, or at hand -/
theorem gf_an {pool : List Str} (f : Fm) : ∀ ns : Ns, Gf true pool f ns → ∀ x ∈ an f, x ∈ pool ∨ ∃ p ∈ ns, p.1 = x := by
  refine ind (P := fun f => ∀ ns : Ns, Gf true pool f ns → ∀ x ∈ an f, x ∈ pool ∨ ∃ p ∈ ns, p.1 = x) (fun f ih ns h x hx => ?_) f
  cases f with
  | rel nm args =>
    obtain ⟨k, m, h1, _, _, h4⟩ := h
    rcases List.mem_append.mp (show x ∈ args ++ [nm] from hx) with z | z
    · exact .inl (h4 x z)
    · exact .inr ⟨_, h1, (List.mem_singleton.mp z).symm⟩
  | cmp c u v =>
    have hx : x ∈ [u, v] := hx
    simp only [List.mem_cons, List.not_mem_nil, or_false] at hx
    rcases hx with e | e
    · rw [e]; exact .inl h.1
    · rw [e]; exact .inl h.2
  | neg f =>
    rcases ih f (by simp [kids]) _ h x hx with z | ⟨p, hp, e⟩
    · exact .inl z
    · obtain ⟨q, hq, rfl⟩ := List.mem_map.mp hp
      exact .inr ⟨q, hq, e⟩
  | jn c fs =>
    obtain ⟨f, hf, m⟩ := mem_ans.mp hx
    exact ih f hf ns (gfs_all.mp h.2 f hf) x m
  | qu c vs f =>
    rcases List.mem_append.mp (show x ∈ vs ++ an f from hx) with z | z
    · exact .inl (h.2.1.of x z)
    · exact ih f (by simp [kids]) _ h.2.2 x z
  | fx l y vs f args => exact absurd h.1 (by decide)
  | tc vs f args => exact absurd h.1 (by decide)
  | gs y ar f => exact absurd h.1 (by decide)
end Say
set_option maxRecDepth 100000
set_option maxHeartbeats 4000000
/-! how formulas stand in memory; what a call leaves; defs by name -/
namespace Say
open PySem PySem.Spec PyProof.Rows L2 Fm
/-! ### what stays -/
def imm : HO → Bool
  | .tup _ => true
  | .frz _ _ => true
  | .own _ => true
  | _ => false
/-- all that stood stands, but what changes at S; nothing that was free ... is forgotten -/
structure Ext (S : List Addr) (H H' : Hp) : Prop where
  keep : ∀ b o, H b = some o → (b ∉ S ∨ imm o = true) → H' b = some o
  free : ∀ b, H' b = none → H b = none
section
variable {S T : List Addr} {H H1 H2 H' : Hp} {a p : Addr} {o u : HO} {xs : List V} {K : PySem.W.Frag}
theorem Ext.refl : Ext S H H := ⟨fun _ _ h _ => h, fun _ h => h⟩
theorem Ext.trans (x : Ext S H H1) (y : Ext S H1 H2) : Ext S H H2 := ⟨fun b o h z => y.keep b o (x.keep b o h z) z, fun b h => x.free b (y.free b h)⟩
theorem Ext.mono (x : Ext S H H1) (h : ∀ b ∈ S, b ∈ T) : Ext T H H1 := ⟨fun b o e z => x.keep b o e (z.imp (fun n m => n (h b m)) id), x.free⟩
theorem Ext.any (x : Ext [] H H1) : Ext T H H1 := x.mono fun _ h => by cases h
theorem Ext.new (h : H p = none) : Ext S H (upd H p o) := ⟨fun b u e _ => by rw [upd_ne (ne_of_none e h)]; exact e, fun b e => by
  by_cases z : b = p
  · subst z; rw [upd_same] at e; cases e
  · rw [upd_ne z] at e; exact e⟩
theorem Ext.add (x : Ext S H H1) (h : H1 p = none) : Ext S H (upd H1 p o) := x.trans (.new h)
/-- a change of what H does not know -/
theorem Ext.mut (x : Ext S H H1) (h : H p = none) : Ext S H (upd H1 p o) := ⟨fun b u e z => by rw [upd_ne (ne_of_none e h)]; exact x.keep b u e z, fun b e => by
  by_cases z : b = p
  · subst z; exact h
  · rw [upd_ne z] at e; exact x.free b e⟩
/-- a change at S -/
theorem Ext.put (x : Ext S H H1) (hp : p ∈ S) (e : H1 p = some u) (m : imm u = false) : Ext S H (upd H1 p o) := ⟨fun b v h z => by
  by_cases hb : b = p
  · subst hb
    rcases z with z | z
    · exact absurd hp z
    · have q := x.keep b v h (.inr z)
      rw [e] at q
      cases q
      rw [m] at z
      cases z
  · rw [upd_ne hb]; exact x.keep b v h z, fun b q => by
  by_cases hb : b = p
  · subst hb; rw [upd_same] at q; cases q
  · rw [upd_ne hb] at q; exact x.free b q⟩
theorem Ext.get (x : Ext S H H1) (h : H a = some o) (n : a ∉ S) : H1 a = some o := x.keep a o h (.inl n)
theorem Ext.get0 (x : Ext [] H H1) (h : H a = some o) : H1 a = some o := x.keep a o h (.inl (by simp))
theorem Ext.tup (x : Ext S H H1) (h : SqT K H a xs) : SqT K H1 a xs := by
  rcases h with (h | ⟨ob, h⟩) | h
  · exact .inl (.inl (x.keep _ _ h (.inr rfl)))
  · exact .inl (.inr ⟨ob, x.keep _ _ h (.inr rfl)⟩)
  · exact .inr h
theorem Ext.lst (x : Ext S H H1) (h : SqL K H a xs) (n : a ∉ S) : SqL K H1 a xs := by
  rcases h with (h | ⟨ob, h⟩) | h
  · exact .inl (.inl (x.keep _ _ h (.inl n)))
  · exact .inl (.inr ⟨ob, x.keep _ _ h (.inr rfl)⟩)
  · exact .inr h
theorem Ext.lst0 (x : Ext [] H H1) (h : SqL K H a xs) : SqL K H1 a xs := x.lst h (by simp)
theorem Ext.ne (x : Ext S H H1) (h : H a = some o) (n : H1 p = none) : a ≠ p := ne_of_none h (x.free p n)
theorem Ext.same (x : Ext [] H H1) : Same H H1 := fun b o h => x.get0 h
end
/-! ### texts as values -/
abbrev sv (xs : List Str) : List V := xs.map V.str
/-! ### a formula in memory -/
section
variable (K : PySem.W.Frag) (H : Hp)
mutual
def Rp : Fm → V → Prop
  | rel nm args, v => ∃ a b, v = .ref a ∧ SqT K H a [.str "rel", .str nm, .ref b] ∧ SqT K H b (sv args)
  | cmp lt x y, v => ∃ a, v = .ref a ∧ SqT K H a [.str (wd (cmp lt x y)), .str x, .str y]
  | neg f, v => ∃ a u, v = .ref a ∧ SqT K H a [.str "not", u] ∧ Rp f u
  | jn c fs, v => ∃ a b us, v = .ref a ∧ SqT K H a [.str (wd (jn c fs)), .ref b] ∧ SqT K H b us ∧ Rps fs us
  | qu c vs f, v => ∃ a b u, v = .ref a ∧ SqT K H a [.str (wd (qu c vs f)), .ref b, u] ∧ SqT K H b (sv vs) ∧ Rp f u
  | fx l nm vs f args, v => ∃ a b c u, v = .ref a ∧ SqT K H a [.str (wd (fx l nm vs f args)), .str nm, .ref b, u, .ref c] ∧ SqT K H b (sv vs) ∧ SqT K H c (sv args) ∧ Rp f u
  | tc vs f args, v => ∃ a b c u, v = .ref a ∧ SqT K H a [.str "tc", .ref b, u, .ref c] ∧ SqT K H b (sv vs) ∧ SqT K H c (sv args) ∧ Rp f u
  | gs nm ar f, v => ∃ a u, v = .ref a ∧ SqT K H a [.str "guess", .str nm, .int (ar : Nat), u] ∧ Rp f u
def Rps : List Fm → List V → Prop
  | [], us => us = []
  | f :: fs, us => ∃ u r, us = u :: r ∧ Rp f u ∧ Rps fs r
end
end
section
variable {K : PySem.W.Frag} {S : List Addr} {H H1 : Hp}
theorem rps_ext_of {fs : List Fm} (h : ∀ f ∈ fs, ∀ v, Rp K H f v → Rp K H1 f v) : ∀ {us}, Rps K H fs us → Rps K H1 fs us := by
  induction fs with
  | nil => intro us q; exact q
  | cons f fs ih =>
    intro us ⟨u, r, e, a, b⟩
    exact ⟨u, r, e, h f List.mem_cons_self u a, ih (fun g hg => h g (List.mem_cons_of_mem _ hg)) b⟩
theorem Rp.ext (x : Ext S H H1) (f : Fm) : ∀ {v}, Rp K H f v → Rp K H1 f v := by
  refine ind (P := fun f => ∀ {v}, Rp K H f v → Rp K H1 f v) (fun f ih {v} h => ?_) f
  cases f with
  | rel nm args =>
    obtain ⟨a, b, e, h1, h2⟩ := h
    exact ⟨a, b, e, x.tup h1, x.tup h2⟩
  | cmp lt u w =>
    obtain ⟨a, e, h1⟩ := h
    exact ⟨a, e, x.tup h1⟩
  | neg f =>
    obtain ⟨a, u, e, h1, h2⟩ := h
    exact ⟨a, u, e, x.tup h1, ih f (by simp [kids]) h2⟩
  | jn c fs =>
    obtain ⟨a, b, us, e, h1, h2, h3⟩ := h
    exact ⟨a, b, us, e, x.tup h1, x.tup h2, rps_ext_of (fun f hf v => ih f hf) h3⟩
  | qu c vs f =>
    obtain ⟨a, b, u, e, h1, h2, h3⟩ := h
    exact ⟨a, b, u, e, x.tup h1, x.tup h2, ih f (by simp [kids]) h3⟩
  | fx l nm vs f args =>
    obtain ⟨a, b, c, u, e, h1, h2, h3, h4⟩ := h
    exact ⟨a, b, c, u, e, x.tup h1, x.tup h2, x.tup h3, ih f (by simp [kids]) h4⟩
  | tc vs f args =>
    obtain ⟨a, b, c, u, e, h1, h2, h3, h4⟩ := h
    exact ⟨a, b, c, u, e, x.tup h1, x.tup h2, x.tup h3, ih f (by simp [kids]) h4⟩
  | gs nm ar f =>
    obtain ⟨a, u, e, h1, h2⟩ := h
    exact ⟨a, u, e, x.tup h1, ih f (by simp [kids]) h2⟩
theorem Rps.ext (x : Ext S H H1) {fs : List Fm} {us : List V} (h : Rps K H fs us) : Rps K H1 fs us := rps_ext_of (fun f _ v => Rp.ext x f) h
theorem Rps.length : ∀ {fs : List Fm} {us : List V}, Rps K H fs us → us.length = fs.length
  | [], us, h => by rw [show us = [] from h]; rfl
  | f :: fs, us, ⟨u, r, e, _, b⟩ => by rw [e]; exact congrArg Nat.succ (Rps.length b)
theorem Rps.get : ∀ {fs : List Fm} {us : List V} {i : Nat} {u : V}, Rps K H fs us → us[i]? = some u → ∃ f, fs[i]? = some f ∧ Rp K H f u
  | [], us, i, u, h, e => by rw [show us = [] from h] at e; simp at e
  | f :: fs, us, 0, u, ⟨u', r, e1, a, b⟩, e => by
    rw [e1] at e
    simp only [List.getElem?_cons_zero, Option.some.injEq] at e
    rw [← e]
    exact ⟨f, rfl, a⟩
  | f :: fs, us, i + 1, u, ⟨u', r, e1, a, b⟩, e => by
    rw [e1] at e
    exact Rps.get (fs := fs) (us := r) (i := i) b (by simpa using e)
theorem Rps.snoc : ∀ {fs : List Fm} {us : List V} {f : Fm} {u : V}, Rps K H fs us → Rp K H f u → Rps K H (fs ++ [f]) (us ++ [u])
  | [], us, f, u, h, q => by rw [show us = [] from h]; exact ⟨u, [], rfl, q, rfl⟩
  | g :: fs, us, f, u, ⟨u', r, e1, a, b⟩, q => by rw [e1]; exact ⟨u', r ++ [u], rfl, a, Rps.snoc b q⟩
theorem Rps.one {f : Fm} {u : V} (h : Rp K H f u) : Rps K H [f] [u] := ⟨u, [], rfl, h, rfl⟩
/-- its tuple: the word ahead -/
theorem Rp.at (f : Fm) {v : V} (h : Rp K H f v) : ∃ a xs, v = .ref a ∧ SqT K H a (.str (wd f) :: xs) := by
  cases f with
  | rel nm args =>
    obtain ⟨a, b, e, h1, h2⟩ := h
    exact ⟨a, _, e, h1⟩
  | cmp lt u w =>
    obtain ⟨a, e, h1⟩ := h
    exact ⟨a, _, e, h1⟩
  | neg f =>
    obtain ⟨a, u, e, h1, h2⟩ := h
    exact ⟨a, _, e, h1⟩
  | jn c fs =>
    obtain ⟨a, b, us, e, h1, h2, h3⟩ := h
    exact ⟨a, _, e, h1⟩
  | qu c vs f =>
    obtain ⟨a, b, u, e, h1, h2, h3⟩ := h
    exact ⟨a, _, e, h1⟩
  | fx l nm vs f args =>
    obtain ⟨a, b, c, u, e, h1, h2, h3, h4⟩ := h
    exact ⟨a, _, e, h1⟩
  | tc vs f args =>
    obtain ⟨a, b, c, u, e, h1, h2, h3, h4⟩ := h
    exact ⟨a, _, e, h1⟩
  | gs nm ar f =>
    obtain ⟨a, u, e, h1, h2⟩ := h
    exact ⟨a, _, e, h1⟩
theorem at_zero {v : V} {xs : List V} : atI (v :: xs) 0 = some v := atI_nat (j := 0) rfl
end
/-! ### defs by name -/
/-- the def x of the text stands under its name -/
def Dn (K : PySem.W.Frag) (mg : Str → Option Value) (x : Str) (st : Stmt) (f : Addr) : Prop := mg x = some (.ref f) ∧ ∃ fd, FnP K x st f fd
/-- what is called by the name x keeps the promise sp -/
def Hs (P : Program) (w : World) (K : PySem.W.Frag) (mg : Str → Option Value) (base : Heap) (CX : CXT) (k : Nat) (x : Str) (ps : List Str) (sp : Sp) : Prop :=
  ∃ f fd, FnOk P w K mg base CX k f fd ps sp ∧ mg x = some (.ref f) ∧ PySem.W.keepIn K (.ref f) = true ∧ Binds K fd ps []
section
variable {P : Program} {w : World} {K : PySem.W.Frag} {mg : Str → Option Value} {base : Heap} {CX : CXT} {j k : Nat} {x : Str} {ps : List Str} {sp sp' : Sp}
theorem Hs.mono (h : Hs P w K mg base CX j x ps sp) (l : j ≤ k) : Hs P w K mg base CX k x ps sp := by
  obtain ⟨f, fd, F, r⟩ := h
  exact ⟨f, fd, F.mono l, r⟩
theorem Hs.imp (h : Hs P w K mg base CX k x ps sp) (q : ∀ vs H Q E, sp' vs H Q E → sp vs H Q E) : Hs P w K mg base CX k x ps sp' := by
  obtain ⟨f, fd, F, r⟩ := h
  exact ⟨f, fd, F.imp q, r⟩
/-- a def by its body -/
theorem Hs.of {st : Stmt} {f : Addr} {N : List Str} (D : Dn K mg x st f) (S : FnScope N ps (defScope st)) (len : ∀ vs H Q E, sp vs H Q E → vs.length = ps.length)
    (hb : ∀ (kV doc pm : Value) (an : Option Addr) (cdv ct : Value) (us : List Value), us.length = ps.length → bindArgs (PySem.W.fnOf x x (defArgs st) (defBody st) (defScope st) .none kV doc pm an cdv ct) ⟨us, []⟩ = pure (ps.zip us))
    (body : ∀ (cdv : Value) (A : Around) (outer : List Env) (s : Shared) (H : Hp) (vs : List V) (Q : VK) (E : XK), Room k (A.deeper (envOfC x (defScope st) s.heap.objs.size f cdv)) → sp vs H Q E →
      ∃ t, PSs (cxOf CX P w K mg base N x (defScope st) f cdv A outer s H E) (defBody st) t ∧ t { nx := fun _ H' => Q .non H', rt := Q } (start N vs) H) : Hs P w K mg base CX (k + 1) x ps sp := by
  obtain ⟨m, fd, F⟩ := D
  exact ⟨f, fd, F.ok S len body, m, F.kp, FunD.bindsN F hb⟩
end
section
variable {X : Cx} {CX : CXT} {k : Nat} {x : Str} {ps : List Str} {sp : Sp} {E : XK} {p pos : Pos} {e : Expr} {es : List Expr} {t : TA}
/-- a call by name -/
theorem pe_h (h : Hs X.prog X.w X.K X.mg X.base CX k x ps sp) (hr : Room k X.A) (hg : Gl X x) (hx : Passes CX X E) (ha : PA X (e :: es) t)
    (hdb : (x == ("__debug__" : Str)) = false := by decide) (he : starEach (e :: es) X.env = (false, eval e X.env) :: starEach es X.env := by rfl) (hpl : (backTo pos (starEach es X.env)).any (·.1) = false := by rfl) :
    PE X (.Call (.Name x p) (e :: es) [] pos) (tCall sp [] E t) := by
  obtain ⟨f, fd, F, m, kp, b⟩ := h
  exact pe_call F hr hg m kp b .nil hx ha hdb he hpl
theorem pe_h0 (h : Hs X.prog X.w X.K X.mg X.base CX k x ps sp) (hr : Room k X.A) (hg : Gl X x) (hx : Passes CX X E) (hdb : (x == ("__debug__" : Str)) = false := by decide) :
    PE X (.Call (.Name x p) [] [] pos) (tCall sp [] E tNil) := by
  obtain ⟨f, fd, F, m, kp, b⟩ := h
  exact pe_call0 F hr hg m kp b .nil hx hdb
end
/-! ### what the top has written -/
structure Tx (w : World) (K : PySem.W.Frag) (mg : Str → Option Value) : Prop where
  qus : mg "QUANTIFIERS" = some (.ref (He.ga K "QUANTIFIERS")) ∧ ∀ H, SqT K H (He.ga K "QUANTIFIERS") [.str "some", .str "all"]
  fix : mg "FIXED" = some (.ref (He.ga K "FIXED")) ∧ ∀ H, SqT K H (He.ga K "FIXED") [.str "lfp", .str "pfp"]
  words : mg "WORDS" = some (.ref (He.ga K "WORDS")) ∧ ∀ H, SqT K H (He.ga K "WORDS") (sv ["and", "or", "not", "some", "all", "lfp", "pfp", "tc", "guess", "true", "false"])
  dual : mg "DUAL" = some (.ref (He.ga K "DUAL")) ∧ ∃ es n, KDict K w (He.ga K "DUAL") es n
  dualV : ∀ q ∈ ([("and", "or"), ("or", "and"), ("some", "all"), ("all", "some")] : List (Str × Str)), ∃ u, PySem.W.nsIn K (He.ga K "DUAL") q.1 = some (some u) ∧ RelV (.str q.2) u
  dualN : ∀ z ∈ (["rel", "eq", "less", "not"] : List Str), PySem.W.nsIn K (He.ga K "DUAL") z = some none
  lens : mg "LENGTHS" = some (.ref (He.ga K "LENGTHS")) ∧ ∃ es n, KDict K w (He.ga K "LENGTHS") es n
  lensV : ∀ q ∈ ([("rel", 3), ("eq", 3), ("less", 3), ("not", 2), ("and", 2), ("or", 2), ("some", 3), ("all", 3), ("lfp", 5), ("pfp", 5), ("tc", 4), ("guess", 4)] : List (Str × Int)), ∃ u, PySem.W.nsIn K (He.ga K "LENGTHS") q.1 = some (some u) ∧ RelV (.int q.2) u
  longest : ∃ t, mg "LONGEST" = some (.int 12 t)
  places : ∃ t, mg "PLACES" = some (.int 6 t)
  most : ∃ t, mg "MOST" = some (.int 2000 t)
  deepest : ∃ t, mg "DEEPEST" = some (.int 40 t)
  branches : ∃ t, mg "BRANCHES" = some (.int 40 t)
  guessed : ∃ t, mg "GUESSED" = some (.int 3 t)
  steps : ∃ t, mg "STEPS" = some (.int 8 t)
  letters : ∃ t, mg "LETTERS" = some (.str "abcdefghijklmnopqrstuvwxyz" t)
  figures : ∃ t, mg "FIGURES" = some (.str "0123456789" t)
  isi : mg "isinstance" = none
  zint : mg "int" = none
  zbool : mg "bool" = none
  zstr : mg "str" = none
  zlen : mg "len" = none
  ztuple : mg "tuple" = none
  zset : mg "set" = none
  zdict : mg "dict" = none
  zsorted : mg "sorted" = none
  zrange : mg "range" = none
  zlist : mg "list" = none
  zmin : mg "min" = none
  zsum : mg "sum" = none
  gLook : mg "Look" = some (.ref (He.ga K "Look"))
  gFresh : mg "Fresh" = some (.ref (He.ga K "Fresh"))
  cLook : Cls K (He.ga K "Look")
  cFresh : Cls K (He.ga K "Fresh")
  nCount : NoAttr K (He.ga K "Look") "count"
  nFound : NoAttr K (He.ga K "Look") "found"
  nUsed : NoAttr K (He.ga K "Fresh") "used"
  nNumber : NoAttr K (He.ga K "Fresh") "number"
  mGo : Meth K (He.ga K "Look") "go" (He.ma K (He.ga K "Look") "go")
  mRel : Meth K (He.ga K "Look") "rel" (He.ma K (He.ga K "Look") "rel")
  mName : Meth K (He.ga K "Fresh") "name" (He.ma K (He.ga K "Fresh") "name")
  kLook : Mk K (He.ga K "Look") (He.ma K (He.ga K "Look") "__init__")
  kFresh : Mk K (He.ga K "Fresh") (He.ma K (He.ga K "Fresh") "__init__")
end Say
set_option maxRecDepth 100000
set_option maxHeartbeats 4000000
/-! small readings -/
namespace Say
open PySem PySem.Spec PyProof.Rows L2 Fm
/-- an if whose test is known -/
theorem ifT {c : Bool} {A B : Prop} (hc : c = true) (h : A) : if c = true then A else B := by rw [if_pos hc]; exact h
theorem ifF {c : Bool} {A B : Prop} (hc : c = false) (h : B) : if c = true then A else B := by rw [hc, if_neg Bool.false_ne_true]; exact h
theorem small_sz {n : Nat} (h : n ≤ 1000) : n ≤ sizeLine := Nat.le_of_lt (small1000 h)
theorem small_sz_m {n : Nat} (h : n ≤ 1000000) : n ≤ sizeLine := by rw [sizeLine_eq]; omega
theorem sz (n : Nat) (h : Nat.ble n 1000 = true) : n ≤ sizeLine := small_sz (Nat.le_of_ble_eq_true h)
theorem big_sz {n : Nat} (h : n ≤ 1000000) : n < sizeLine := Nat.lt_of_le_of_lt h (by rw [sizeLine_eq]; decide)
section
variable {K : PySem.W.Frag} {H : Hp} {a : Addr} {xs : List V}
theorem tyx (h : SqT K H a xs) : TyX K H (.ref a) (.type "tuple") := by
  rcases h with (h | ⟨o, h⟩) | ⟨o, its, n, hk, hc, _⟩
  · exact .base (.tup h)
  · exact .fTuple h
  · exact .kTuple hk hc
theorem flat_sv (ys : List Str) : (sv ys).all flatV = true := by
  refine List.all_eq_true.mpr fun v hv => ?_
  obtain ⟨y, _, rfl⟩ := List.mem_map.mp hv
  rfl
theorem inV_sv {x : Str} {ys : List Str} : inV (.str x) (sv ys) = ys.contains x := by
  unfold inV
  rw [List.contains_eq_any_beq]
  rw [List.any_map]
  congr 1
  funext y
  show decide (y = x) = (x == y)
  by_cases e : y = x
  · subst e; simp
  · rw [decide_eq_false e]; exact (beq_eq_false_iff_ne.mpr fun q => e q.symm).symm
end
/-- over a text, sign by sign -/
theorem for_str {z : Str} {g : TG} {tb : TS} {D : Ends} {σ : L2.St} {H : Hp} (Pv : Nat → L2.St → Hp → Prop) (h0 : Pv 0 σ H)
    (hs : ∀ i c σ H, z.cps[i]? = some c → Pv i σ H → g (.str ⟨#[c]⟩) σ H fun σ2 H2 => tb { D with nx := Pv (i + 1), ct := Pv (i + 1), bk := D.nx } σ2 H2) (hd : ∀ σ H, Pv z.cps.size σ H → D.nx σ H) :
    ∃ W : Nat → Nat → L2.St → Hp → Prop, (∃ m, W 0 m σ H) ∧ ∀ i m σ H, W i m σ H →
      ((Its z).stop i H ∧ D.nx σ H) ∨ ((Its z).go i H ∧ ∃ N : L2.St → Hp → Prop, (∀ σ' H', N σ' H' → ∃ m', m' < m ∧ W (i + 1) m' σ' H') ∧ ∀ x H', (Its z).yld i H x H' → g x σ H' fun σ2 H2 => tb { D with nx := N, ct := N, bk := D.nx } σ2 H2) := by
  refine ⟨fun i m σ H => m = z.cps.size - i ∧ i ≤ z.cps.size ∧ Pv i σ H, ⟨z.cps.size, by simp, Nat.zero_le _, h0⟩, ?_⟩
  rintro i m σ H ⟨rfl, hi, p⟩
  by_cases hlt : i < z.cps.size
  · refine .inr ⟨hlt, Pv (i + 1), fun σ' H' p' => ⟨z.cps.size - (i + 1), by omega, rfl, hlt, p'⟩, fun x H' y => ?_⟩
    obtain ⟨e, c, hc, ex⟩ := y
    subst e ex
    exact hs i c σ _ hc p
  · have e : i = z.cps.size := by omega
    subst e
    exact .inl ⟨Nat.le_refl _, hd σ H p⟩
/-- what changes at new places changes nothing old -/
theorem Ext.drop {S R : List Addr} {H H1 H2 : Hp} (x : Ext S H H1) (y : Ext R H1 H2) (h : ∀ a ∈ R, a ∈ S ∨ H a = none) : Ext S H H2 :=
  ⟨fun b o e z => by
    rcases z with z | z
    · exact y.keep b o (x.keep b o e (.inl z)) (.inl fun m => (h b m).elim z fun q => by rw [q] at e; cases e)
    · exact y.keep b o (x.keep b o e (.inr z)) (.inr z), fun b e => x.free b (y.free b e)⟩
theorem Ext.late {S : List Addr} {H H1 H2 : Hp} (x : Ext [] H H1) (y : Ext S H1 H2) (h : ∀ a ∈ S, H a = none) : Ext [] H H2 := x.drop y fun a m => .inr (h a m)
section
variable {X : Cx}
/-- (a, ..) + (b, ..), texts -/
theorem op_catS : OpR X (binaryOp .Add) (fun x y H Q => ∃ a b xs ys, x = .ref a ∧ y = .ref b ∧ SqT X.K H a (sv xs) ∧ SqT X.K H b (sv ys) ∧ xs.length + ys.length ≤ 1000 ∧ ∀ p H', Ext [] H H' → SqT X.K H' p (sv (xs ++ ys)) → Q (.ref p) H') := by
  intro pins s σ H x y v u Q I rx ry h
  obtain ⟨a, b, xs, ys, ex, ey, ha, hb, hz, q⟩ := h
  refine op_catA pins s σ H x y v u Q I rx ry ⟨a, b, sv xs, sv ys, ex, ey, ha, hb, by rw [List.length_map, List.length_map]; exact small_sz hz, fun e => ?_, fun _ e => ?_, fun _ _ p hp => ?_⟩
  · rw [List.map_eq_nil_iff.mp e] at q
    exact q b H .refl hb
  · rw [List.map_eq_nil_iff.mp e, List.append_nil] at q
    exact q a H .refl ha
  · rw [← List.map_append]
    exact q p _ (.new hp) (SqT.of upd_same)
end
section
variable {X : Cx}
/-- (a, ..) + (b, ..) -/
theorem op_cat1 : OpR X (binaryOp .Add) (fun x y H Q => ∃ a b xs ys, x = .ref a ∧ y = .ref b ∧ SqT X.K H a xs ∧ SqT X.K H b ys ∧ xs.length + ys.length ≤ 1000 ∧ ∀ p H', Ext [] H H' → SqT X.K H' p (xs ++ ys) → Q (.ref p) H') := by
  intro pins s σ H x y v u Q I rx ry h
  obtain ⟨a, b, xs, ys, ex, ey, ha, hb, hz, q⟩ := h
  refine op_catA pins s σ H x y v u Q I rx ry ⟨a, b, xs, ys, ex, ey, ha, hb, small_sz hz, fun e => ?_, fun _ e => ?_, fun _ _ p hp => ?_⟩
  · rw [e] at q
    exact q b H .refl hb
  · rw [e, List.append_nil] at q
    exact q a H .refl ha
  · exact q p _ (.new hp) (SqT.of upd_same)
end
section
variable {X : Cx} {K : PySem.W.Frag}
theorem ix_tupB (h : X.K = K) : IxR X (rIxT K) := by subst h; exact ix_tup
theorem ix_listB (h : X.K = K) : IxR X (rIxL K) := by subst h; exact ix_list
theorem call_len_seqB (h : X.K = K) : CallR X (.builtin "len") (fun xs H Q => ∃ p ys, xs = [.ref p] ∧ (SqL K H p ys ∨ SqT K H p ys) ∧ Q (.int ys.length) H) := by subst h; exact call_len_seq
theorem op_in_seqB (h : X.K = K) : OpR X (compareOp .In) (rIn K false) := by subst h; exact op_in_seq
theorem op_notIn_seqB (h : X.K = K) : OpR X (compareOp .NotIn) (rIn K true) := by subst h; exact op_notIn_seq
theorem call_tuple_ofB (h : X.K = K) : CallR X (.type "tuple") (fun xs H Q => ∃ p ys, xs = [.ref p] ∧ ((SqL K H p ys ∧ ∀ l, H l = none → Q (.ref l) (upd H l (.tup ys))) ∨ (SqT K H p ys ∧ Q (.ref p) H))) := by subst h; exact call_tuple_of
theorem call_list_ofB (h : X.K = K) : CallR X (.type "list") (fun xs H Q => ∃ p ys, xs = [.ref p] ∧ (SqL K H p ys ∨ SqT K H p ys) ∧ ∀ l, H l = none → Q (.ref l) (upd H l (.lst ys))) := by subst h; exact call_list_of
theorem sl_listB (h : X.K = K) : SlR X (rSlL K) := by subst h; exact sl_list
end
/-! ### the words, by numbers -/
def wds : Nat → Str
  | 0 => "rel"
  | 1 => "eq"
  | 2 => "less"
  | 3 => "not"
  | 4 => "and"
  | 5 => "or"
  | 6 => "some"
  | 7 => "all"
  | 8 => "lfp"
  | 9 => "pfp"
  | 10 => "tc"
  | _ => "guess"
def wk : Fm → Nat
  | rel _ _ => 0
  | cmp true _ _ => 2
  | cmp false _ _ => 1
  | neg _ => 3
  | jn true _ => 4
  | jn false _ => 5
  | qu true _ _ => 7
  | qu false _ _ => 6
  | fx true _ _ _ _ => 8
  | fx false _ _ _ _ => 9
  | tc _ _ _ => 10
  | gs _ _ _ => 11
theorem wd_wk (f : Fm) : wd f = wds (wk f) := by
  cases f with
  | cmp c _ _ => cases c <;> rfl
  | jn c _ => cases c <;> rfl
  | qu c _ _ => cases c <;> rfl
  | fx c _ _ _ _ => cases c <;> rfl
  | _ => rfl
theorem wk_lt (f : Fm) : wk f < 12 := by
  cases f with
  | cmp c _ _ => cases c <;> exact Nat.le_of_ble_eq_true rfl
  | jn c _ => cases c <;> exact Nat.le_of_ble_eq_true rfl
  | qu c _ _ => cases c <;> exact Nat.le_of_ble_eq_true rfl
  | fx c _ _ _ _ => cases c <;> exact Nat.le_of_ble_eq_true rfl
  | _ => exact Nat.le_of_ble_eq_true rfl
theorem wd_in {f : Fm} (ws : List Str) (cs : List Nat) (h : ∀ i, i < 12 → ws.contains (wds i) = cs.contains i) : inV (.str (wd f)) (sv ws) = cs.contains (wk f) := by
  rw [inV_sv, wd_wk]
  exact h _ (wk_lt f)
theorem str_eq {x y : Str} : decide (V.str x = V.str y) = decide (x = y) := by
  by_cases e : x = y
  · rw [decide_eq_true e, decide_eq_true (congrArg V.str e)]
  · rw [decide_eq_false e, decide_eq_false fun q => e (V.str.inj q)]
theorem wd_eq {f : Fm} (x : Str) (c : Nat) (h : ∀ i, i < 12 → decide (wds i = x) = (i == c)) : decide (V.str (wd f) = V.str x) = (wk f == c) := by
  rw [str_eq, wd_wk]
  exact h _ (wk_lt f)
/-! ### over the parts -/
section
variable {K : PySem.W.Frag} {p : Addr} {us : List V} {fs : List Fm} {g : TG} {tb : TS} {D : Ends} {σ : L2.St} {H H0 : Hp} {S : List Addr}
theorem take_step {α : Type} {l : List α} {i : Nat} {x : α} (h : l[i]? = some x) : l.take (i + 1) = l.take i ++ [x] ∧ l = l.take i ++ x :: l.drop (i + 1) := by
  have hi : i < l.length := by
    rcases Nat.lt_or_ge i l.length with a | a
    · exact a
    · rw [List.getElem?_eq_none a] at h; cases h
  rw [List.getElem?_eq_getElem hi] at h
  have e : l[i] = x := by simpa using h
  refine ⟨?_, ?_⟩
  · rw [List.take_succ, List.getElem?_eq_getElem hi, e]; rfl
  · have q := List.take_append_drop i l
    rw [List.drop_eq_getElem_cons hi, e] at q
    exact q.symm
theorem for_parts (hp : SqT K H0 p us) (hs : Rps K H0 fs us) (Pv : List Fm → L2.St → Hp → Prop) (h0 : Pv [] σ H) (he : ∀ d σ H', Pv d σ H' → Ext S H0 H')
    (hb : ∀ d x r u σ H', fs = d ++ x :: r → Rp K H' x u → Pv d σ H' → g u σ H' fun σ2 H2 => tb { D with nx := Pv (d ++ [x]), ct := Pv (d ++ [x]), bk := D.nx } σ2 H2) (hd : ∀ σ H', Pv fs σ H' → D.nx σ H') :
    ∃ W : Nat → Nat → L2.St → Hp → Prop, (∃ m, W 0 m σ H) ∧ ∀ i m σ H, W i m σ H →
      ((Itt K p).stop i H ∧ D.nx σ H) ∨ ((Itt K p).go i H ∧ ∃ N : L2.St → Hp → Prop, (∀ σ' H', N σ' H' → ∃ m', m' < m ∧ W (i + 1) m' σ' H') ∧ ∀ x H', (Itt K p).yld i H x H' → g x σ H' fun σ2 H2 => tb { D with nx := N, ct := N, bk := D.nx } σ2 H2) := by
  refine for_tup (xs := us) (fun i σ H' => Pv (fs.take i) σ H') h0 (fun i σ H' _ z => (he _ _ _ z).tup hp) (fun i u σ H' hu z => ?_) (fun σ H' z => ?_)
  · obtain ⟨x, hx, hr⟩ := Rps.get hs hu
    obtain ⟨t1, t2⟩ := take_step hx
    show g u σ H' fun σ2 H2 => tb { D with nx := Pv (fs.take (i + 1)), ct := Pv (fs.take (i + 1)), bk := D.nx } σ2 H2
    rw [t1]
    exact hb _ x _ u σ H' t2 (Rp.ext (he _ _ _ z) x hr) z
  · have z : Pv (fs.take us.length) σ H' := z
    rw [Rps.length hs, List.take_length] at z
    exact hd σ H' z
theorem for_partsL (hp : SqL K H0 p us) (hs : Rps K H0 fs us) (Pv : List Fm → L2.St → Hp → Prop) (hn : p ∉ S) (h0 : Pv [] σ H) (he : ∀ d σ H', Pv d σ H' → Ext S H0 H')
    (hb : ∀ d x r u σ H', fs = d ++ x :: r → Rp K H' x u → Pv d σ H' → g u σ H' fun σ2 H2 => tb { D with nx := Pv (d ++ [x]), ct := Pv (d ++ [x]), bk := D.nx } σ2 H2) (hd : ∀ σ H', Pv fs σ H' → D.nx σ H') :
    ∃ W : Nat → Nat → L2.St → Hp → Prop, (∃ m, W 0 m σ H) ∧ ∀ i m σ H, W i m σ H →
      ((Itl K p).stop i H ∧ D.nx σ H) ∨ ((Itl K p).go i H ∧ ∃ N : L2.St → Hp → Prop, (∀ σ' H', N σ' H' → ∃ m', m' < m ∧ W (i + 1) m' σ' H') ∧ ∀ x H', (Itl K p).yld i H x H' → g x σ H' fun σ2 H2 => tb { D with nx := N, ct := N, bk := D.nx } σ2 H2) := by
  refine for_list (xs := us) (fun i σ H' => Pv (fs.take i) σ H') h0 (fun i σ H' _ z => (he _ _ _ z).lst hp hn) (fun i u σ H' hu z => ?_) (fun σ H' z => ?_)
  · obtain ⟨x, hx, hr⟩ := Rps.get hs hu
    obtain ⟨t1, t2⟩ := take_step hx
    show g u σ H' fun σ2 H2 => tb { D with nx := Pv (fs.take (i + 1)), ct := Pv (fs.take (i + 1)), bk := D.nx } σ2 H2
    rw [t1]
    exact hb _ x _ u σ H' t2 (Rp.ext (he _ _ _ z) x hr) z
  · have z : Pv (fs.take us.length) σ H' := z
    rw [Rps.length hs, List.take_length] at z
    exact hd σ H' z
variable {tt : TT} {te : TE} {vs : List Nat} {H1 : Hp} {B : Addr} {Qd : Hp → Prop}
/-- [f(part) for part in ..] over a tuple of parts: d the parts done -/
theorem lc_parts (hp : SqT K H0 p us) (hs : Rps K H0 fs us) (Pv : List Fm → Hp → Prop) (h0 : Pv [] (upd H1 B (.lst []))) (he : ∀ d H', Pv d H' → Ext S H0 H')
    (hb : ∀ d x r u H', fs = d ++ x :: r → Rp K H' x u → Pv d H' → g u (wipe σ vs) H' fun σ2 H2 => wipe σ2 vs = wipe σ vs ∧ tt σ2 H2 fun b H3 =>
      if b = true then te σ2 H3 fun y H4 => ∃ acc, H4 B = some (.lst acc) ∧ acc.length < sizeLine ∧ Pv (d ++ [x]) (upd H4 B (.lst (acc ++ [y]))) else Pv (d ++ [x]) H3)
    (hd : ∀ H', Pv fs H' → Qd H') :
    ∃ W : Nat → Nat → Hp → Prop, (∃ m, W 0 m (upd H1 B (.lst []))) ∧ ∀ i m H, W i m H →
      ((Itt K p).stop i H ∧ Qd H) ∨ ((Itt K p).go i H ∧ ∃ Nx : Hp → Prop, (∀ H', Nx H' → ∃ m', m' < m ∧ W (i + 1) m' H') ∧ ∀ x H', (Itt K p).yld i H x H' → g x (wipe σ vs) H' fun σ2 H2 => wipe σ2 vs = wipe σ vs ∧ tt σ2 H2 fun b H3 =>
        if b = true then te σ2 H3 fun y H4 => ∃ acc, H4 B = some (.lst acc) ∧ acc.length < sizeLine ∧ Nx (upd H4 B (.lst (acc ++ [y]))) else Nx H3) := by
  refine lc_tup (xs := us) (fun i H' => Pv (fs.take i) H') h0 (fun i H' _ z => (he _ _ z).tup hp) (fun i u H' hu z => ?_) (fun H' z => ?_)
  · obtain ⟨x, hx, hr⟩ := Rps.get hs hu
    obtain ⟨t1, t2⟩ := take_step hx
    show g u (wipe σ vs) H' fun σ2 H2 => wipe σ2 vs = wipe σ vs ∧ tt σ2 H2 fun b H3 => if b = true then te σ2 H3 fun y H4 => ∃ acc, H4 B = some (.lst acc) ∧ acc.length < sizeLine ∧ Pv (fs.take (i + 1)) (upd H4 B (.lst (acc ++ [y]))) else Pv (fs.take (i + 1)) H3
    rw [t1]
    exact hb _ x _ u H' t2 (Rp.ext (he _ _ z) x hr) z
  · have z : Pv (fs.take us.length) H' := z
    rw [Rps.length hs, List.take_length] at z
    exact hd H' z
theorem lc_partsL (hp : SqL K H0 p us) (hs : Rps K H0 fs us) (Pv : List Fm → Hp → Prop) (hn : p ∉ S) (h0 : Pv [] (upd H1 B (.lst []))) (he : ∀ d H', Pv d H' → Ext S H0 H')
    (hb : ∀ d x r u H', fs = d ++ x :: r → Rp K H' x u → Pv d H' → g u (wipe σ vs) H' fun σ2 H2 => wipe σ2 vs = wipe σ vs ∧ tt σ2 H2 fun b H3 =>
      if b = true then te σ2 H3 fun y H4 => ∃ acc, H4 B = some (.lst acc) ∧ acc.length < sizeLine ∧ Pv (d ++ [x]) (upd H4 B (.lst (acc ++ [y]))) else Pv (d ++ [x]) H3)
    (hd : ∀ H', Pv fs H' → Qd H') :
    ∃ W : Nat → Nat → Hp → Prop, (∃ m, W 0 m (upd H1 B (.lst []))) ∧ ∀ i m H, W i m H →
      ((Itl K p).stop i H ∧ Qd H) ∨ ((Itl K p).go i H ∧ ∃ Nx : Hp → Prop, (∀ H', Nx H' → ∃ m', m' < m ∧ W (i + 1) m' H') ∧ ∀ x H', (Itl K p).yld i H x H' → g x (wipe σ vs) H' fun σ2 H2 => wipe σ2 vs = wipe σ vs ∧ tt σ2 H2 fun b H3 =>
        if b = true then te σ2 H3 fun y H4 => ∃ acc, H4 B = some (.lst acc) ∧ acc.length < sizeLine ∧ Nx (upd H4 B (.lst (acc ++ [y]))) else Nx H3) := by
  refine lc_list (xs := us) (fun i H' => Pv (fs.take i) H') h0 (fun i H' _ z => (he _ _ z).lst hp hn) (fun i u H' hu z => ?_) (fun H' z => ?_)
  · obtain ⟨x, hx, hr⟩ := Rps.get hs hu
    obtain ⟨t1, t2⟩ := take_step hx
    show g u (wipe σ vs) H' fun σ2 H2 => wipe σ2 vs = wipe σ vs ∧ tt σ2 H2 fun b H3 => if b = true then te σ2 H3 fun y H4 => ∃ acc, H4 B = some (.lst acc) ∧ acc.length < sizeLine ∧ Pv (fs.take (i + 1)) (upd H4 B (.lst (acc ++ [y]))) else Pv (fs.take (i + 1)) H3
    rw [t1]
    exact hb _ x _ u H' t2 (Rp.ext (he _ _ z) x hr) z
  · have z : Pv (fs.take us.length) H' := z
    rw [Rps.length hs, List.take_length] at z
    exact hd H' z
end
/-! ### methods -/
def Dm (K : PySem.W.Frag) (C : Addr) (x q : Str) (st : Stmt) (f : Addr) : Prop := Meth K C x f ∧ ∃ fd, MeP K x q st f fd
def Di (K : PySem.W.Frag) (C : Addr) (q : Str) (st : Stmt) (f : Addr) : Prop := Mk K C f ∧ ∃ fd, MeP K "__init__" q st f fd
def Hm (P : Program) (w : World) (K : PySem.W.Frag) (mg : Str → Option Value) (base : Heap) (CX : CXT) (k : Nat) (C : Addr) (x : Str) (ps : List Str) (sp : L2.Sp) : Prop :=
  ∃ f fd, FnOk P w K mg base CX k f fd ps sp ∧ Meth K C x f ∧ Binds K fd ps []
def Hi (P : Program) (w : World) (K : PySem.W.Frag) (mg : Str → Option Value) (base : Heap) (CX : CXT) (k : Nat) (C : Addr) (ps : List Str) (sp : L2.Sp) : Prop :=
  ∃ f fd, FnOk P w K mg base CX k f fd ps sp ∧ Mk K C f ∧ Binds K fd ps []
section
variable {P : Program} {w : World} {K : PySem.W.Frag} {mg : Str → Option Value} {base : Heap} {CX : CXT} {j k : Nat} {x q : Str} {ps : List Str} {sp sp' : L2.Sp} {C : Addr}
theorem Hm.mono (h : Hm P w K mg base CX j C x ps sp) (l : j ≤ k) : Hm P w K mg base CX k C x ps sp := by
  obtain ⟨f, fd, F, r⟩ := h
  exact ⟨f, fd, F.mono l, r⟩
theorem Hi.mono (h : Hi P w K mg base CX j C ps sp) (l : j ≤ k) : Hi P w K mg base CX k C ps sp := by
  obtain ⟨f, fd, F, r⟩ := h
  exact ⟨f, fd, F.mono l, r⟩
theorem Hm.of {st : Stmt} {f : Addr} {N : List Str} (D : Dm K C x q st f) (S : FnScope N ps (defScope st)) (len : ∀ vs H Q E, sp vs H Q E → vs.length = ps.length)
    (hb : ∀ (kV doc pm : Value) (an : Option Addr) (cdv ct : Value) (us : List Value), us.length = ps.length → bindArgs (PySem.W.fnOf x q (defArgs st) (defBody st) (defScope st) .none kV doc pm an cdv ct) ⟨us, []⟩ = pure (ps.zip us))
    (body : ∀ (cdv : Value) (A : Around) (outer : List Env) (s : Shared) (H : Hp) (vs : List V) (Q : VK) (E : XK), Room k (A.deeper (envOfC q (defScope st) s.heap.objs.size f cdv)) → sp vs H Q E →
      ∃ t, PSs (cxOf CX P w K mg base N q (defScope st) f cdv A outer s H E) (defBody st) t ∧ t { nx := fun _ H' => Q .non H', rt := Q } (start N vs) H) : Hm P w K mg base CX (k + 1) C x ps sp := by
  obtain ⟨m, fd, F⟩ := D
  exact ⟨f, fd, F.ok S len body, m, FunD.bindsN F hb⟩
theorem Hi.of {st : Stmt} {f : Addr} {N : List Str} (D : Di K C q st f) (S : FnScope N ps (defScope st)) (len : ∀ vs H Q E, sp vs H Q E → vs.length = ps.length)
    (hb : ∀ (kV doc pm : Value) (an : Option Addr) (cdv ct : Value) (us : List Value), us.length = ps.length → bindArgs (PySem.W.fnOf "__init__" q (defArgs st) (defBody st) (defScope st) .none kV doc pm an cdv ct) ⟨us, []⟩ = pure (ps.zip us))
    (body : ∀ (cdv : Value) (A : Around) (outer : List Env) (s : Shared) (H : Hp) (vs : List V) (Q : VK) (E : XK), Room k (A.deeper (envOfC q (defScope st) s.heap.objs.size f cdv)) → sp vs H Q E →
      ∃ t, PSs (cxOf CX P w K mg base N q (defScope st) f cdv A outer s H E) (defBody st) t ∧ t { nx := fun _ H' => Q .non H', rt := Q } (start N vs) H) : Hi P w K mg base CX (k + 1) C ps sp := by
  obtain ⟨m, fd, F⟩ := D
  exact ⟨f, fd, F.ok S len body, m, FunD.bindsN F hb⟩
end
section
variable {X : Cx} {CX : CXT} {k : Nat} {C : Addr} {m x : Str} {ps : List Str} {sp : L2.Sp} {E : XK} {p pos apos pos' : Pos} {o e : Expr} {es : List Expr} {t : TA} {ta : TE}
theorem pe_mt {pl : Sem Bool} (h : Hm X.prog X.w X.K X.mg X.base CX k C m ps sp) (hr : Room k X.A) (he : PE X o ta) (c : Cls X.K C) (hx : Passes CX X E) (ha : PA X (e :: es) t)
    (hst : starEach (e :: es) X.env = (false, eval e X.env) :: starEach es X.env := by rfl) (hpl : (backTo pos (starEach es X.env)).any (·.1) = false := by rfl)
    (ht : eval (.Call (.Attribute o m apos) (e :: es) [] pos) X.env = (do
      let ov ← eval o X.env
      standAt apos.atName
      let (f, first) ← holding [ov] (getMethod ov m pl)
      callWith pos f first (backTo pos (starEach (e :: es) X.env)) (backToKw pos (keywordEach [] X.env))) := by rfl) :
    PE X (.Call (.Attribute o m apos) (e :: es) [] pos) (tMeth C m sp [] E ta t) := by
  obtain ⟨f, fd, F, hm, b⟩ := h
  exact pe_meth (pl := pl) he c hm F hr b .nil hx ha hst hpl ht
theorem pe_mt0 {pl : Sem Bool} (h : Hm X.prog X.w X.K X.mg X.base CX k C m ps sp) (hr : Room k X.A) (he : PE X o ta) (c : Cls X.K C) (hx : Passes CX X E)
    (ht : eval (.Call (.Attribute o m apos) [] [] pos) X.env = (do
      let ov ← eval o X.env
      standAt apos.atName
      let (f, first) ← holding [ov] (getMethod ov m pl)
      callWith pos f first (backTo pos (starEach [] X.env)) (backToKw pos (keywordEach [] X.env))) := by rfl) :
    PE X (.Call (.Attribute o m apos) [] [] pos) (tMeth C m sp [] E ta tNil) := by
  obtain ⟨f, fd, F, hm, b⟩ := h
  exact pe_meth0 (pl := pl) he c hm F hr b .nil hx ht
theorem pe_mk (h : Hi X.prog X.w X.K X.mg X.base CX k C ps sp) (hr : Room (k + 1) X.A) (hg : Gl X x) (hm : X.mg x = some (.ref C)) (hx : Passes CX X E) (ha : PA X (e :: es) t)
    (hdb : (x == ("__debug__" : Str)) = false := by decide) (he : starEach (e :: es) X.env = (false, eval e X.env) :: starEach es X.env := by rfl) (hpl : (backTo pos (starEach es X.env)).any (·.1) = false := by rfl) :
    PE X (.Call (.Name x p) (e :: es) [] pos) (tMake C sp [] E t) := by
  obtain ⟨f, fd, F, M, b⟩ := h
  exact pe_make M F hr hg hm b .nil hx ha hdb he hpl
theorem pe_mk0 (h : Hi X.prog X.w X.K X.mg X.base CX k C ps sp) (hr : Room (k + 1) X.A) (hg : Gl X x) (hm : X.mg x = some (.ref C)) (hx : Passes CX X E) (hdb : (x == ("__debug__" : Str)) = false := by decide) :
    PE X (.Call (.Name x p) [] [] pos) (tMake C sp [] E tNil) := by
  obtain ⟨f, fd, F, M, b⟩ := h
  exact pe_make0 M F hr hg hm b .nil hx hdb
end
end Say
set_option maxRecDepth 100000
set_option maxHeartbeats 4000000
/-! sets of texts: made of a tuple, added to, counted, sorted -/
namespace Say
open PySem PySem.Spec PyProof.Rows L2
/-! ### a set of texts whose table can be walked -/
def txOf (e : Int × Value) : Str := match e.2 with
  | .str x _ => x
  | _ => Str.empty
def TxE (w : World) (e : Int × Value) : Prop := ∃ x tk, e.2 = Value.str x tk ∧ e.1 = hashStr w x
/-- at a: the texts of S, c of them -/
def TxSet (w : World) (h : Heap) (a : Addr) (S : Str → Bool) (c : Nat) : Prop :=
  ∃ o es ep t, h.get? a = some o ∧ o.ExactSet ∧ o.data = .set es ep t ∧ ((∀ e ∈ es.toList, TxE w e) ∧ (es.toList.map txOf).Nodup ∧ ∀ k, S k = true ↔ k ∈ es.toList.map txOf) ∧
    (es.size < scanBound ∧ t.fits es.size = true ∧ es.size = c) ∧ Ris t.place.toList ∧ (w.params.followText "set-order" = true ∨ t.led = true)
section
variable {P : Program} {w : World} {h h' : Heap} {a : Addr} {S S' : Str → Bool} {c : Nat}
theorem TxSet.at (R : TxSet w h a S c) (k : ∀ o, h.get? a = some o → h'.get? a = some o) : TxSet w h' a S c :=
  let ⟨o, es, ep, t, ho, r⟩ := R
  ⟨o, es, ep, t, k o ho, r⟩
theorem TxSet.congr (R : TxSet w h a S c) (e : ∀ k, S k = S' k) : TxSet w h a S' c := by
  have z : S = S' := funext e
  rw [← z]; exact R
theorem tx_elems {l : List (Int × Value)} (g : ∀ e ∈ l, TxE w e) : ElemsOf (strKind P w) l := fun e he => by
  obtain ⟨x, tk, e1, e2⟩ := g e he
  refine ⟨⟨x, ?_, e2⟩, ?_⟩
  · rw [e1]; exact strKind_is P w x tk
  · rw [e1] <;> rfl
theorem tx_is {e : Int × Value} (g : TxE w e) (k : Str) : (strKind P w).is k e.2 = true ↔ txOf e = k := by
  obtain ⟨x, tk, e1, _⟩ := g
  unfold txOf
  rw [e1]
  constructor
  · intro z
    obtain ⟨t, e3⟩ := Value.isStrOf_shape (x := k) (v := Value.str x tk) z
    injection e3
  · intro z
    have z : x = k := z
    rw [z]
    exact strKind_is P w k tk
theorem tx_mem {l : List (Int × Value)} (g : ∀ e ∈ l, TxE w e) (k : Str) : k ∈ l.map txOf ↔ ∃ e ∈ l, (strKind P w).is k e.2 = true :=
  ⟨fun m => let ⟨e, he, z⟩ := List.mem_map.mp m; ⟨e, he, (tx_is (g e he) k).mpr z⟩, fun ⟨e, he, z⟩ => List.mem_map.mpr ⟨e, he, (tx_is (g e he) k).mp z⟩⟩
theorem TxSet.setOf (R : TxSet w h a S c) : h.SetOf (strKind P w) a S c := by
  obtain ⟨o, es, ep, t, ho, hx, hd, ⟨g, _, hm⟩, ⟨b1, b2, b3⟩, _⟩ := R
  exact ⟨o, es, ep, t, ho, hx, hd, tx_elems g, fun k => (hm k).trans (tx_mem g k), b1, b2, b3⟩
end
section
variable {P : Program} {w : World} {A : Around} {E : Value → Shared → Prop} {s : Shared} {a : Addr} {S : Str → Bool} {c : Nat}
/-- the store behind a new text, the table perhaps laid anew -/
theorem tx_tail {g : Bool → Sem Unit} (hg : ∀ (b : Bool) (s1 : Shared) (Q' : Unit → Shared → Prop), Q' () s1 → wpAny (model P w) A (g b) Q' E s1) {o : Obj} {es : Array (Int × Value)} {ep : Nat} {t : SetTable}
    (ho : s.heap.get? a = some o) (hx : o.ExactSet) (hd : o.data = .set es ep t) {fs : Array (Int × Value)} {u : SetTable} {S' : Str → Bool}
    (ok : (∀ e ∈ fs.toList, TxE w e) ∧ (fs.toList.map txOf).Nodup ∧ ∀ k, S' k = true ↔ k ∈ fs.toList.map txOf) (hb : fs.size < scanBound) (hf : u.fits fs.size = true) (hr : Ris u.place.toList)
    (hl : w.params.followText "set-order" = true ∨ u.led = true) {dummy : Bool} {R : Option Bool → Shared → Prop} (hR : ∀ h', Heap.SameBut a s.heap h' → TxSet w h' a S' fs.size → R (some true) { s with heap := h' }) :
    wpAny (model P w) A (do
      storeSet a fs u
      if (!dummy && u.tooFull) = true then do
        g (relayAll u fs (SetTable.grown fs.size)).2.2
        storeSet a (relayAll u fs (SetTable.grown fs.size)).1 (relayAll u fs (SetTable.grown fs.size)).2.1
        pure (some true)
      else pure (some true)) R E s := by
  refine wpAny_bind (wpAny_storeSet_of ho hd ?_ (fits_of_scanBound hb))
  have at1 := store_at (es' := fs) (t' := u) ho hd
  have sb := Heap.SameBut.update s.heap a (Obj.putSet fs u)
  obtain ⟨ok1, ok2, ok3⟩ := ok
  split
  · have p1 := relayAll_perm u fs (SetTable.grown fs.size)
    have p2 := relayAll_fits u fs (SetTable.grown fs.size)
    have p3 := relayAll_ris u fs (SetTable.grown fs.size)
    have p4 := relayAll_led u fs (SetTable.grown fs.size)
    generalize relayAll u fs (SetTable.grown fs.size) = Z at p1 p2 p3 p4 ⊢
    obtain ⟨gs, v, gave⟩ := Z
    dsimp only at p1 p2 p3 p4 ⊢
    have ez : gs.size = fs.size := by rw [← Array.length_toList, p1.length_eq, Array.length_toList]
    have hb2 : gs.size < scanBound := by omega
    refine wpAny_bind (hg _ _ _ (wpAny_bind (wpAny_storeSet_of at1 rfl (wpAny_pure ?_) (fits_of_scanBound hb2))))
    have at2 := store_at (es' := gs) (t' := v) at1 rfl
    refine hR _ (sb.trans (Heap.SameBut.update _ a _)) ⟨_, gs, _, v, at2, hx, rfl, ⟨fun e he => ok1 e (p1.mem_iff.mp he), (p1.map txOf).nodup_iff.mpr ok2, fun k => (ok3 k).trans (p1.map txOf).mem_iff.symm⟩, ⟨hb2, p2, ez⟩, p3, ?_⟩
    exact hl.imp id fun z => by rw [p4]; exact z
  · exact wpAny_pure (hR _ sb ⟨_, fs, _, u, at1, hx, rfl, ⟨ok1, ok2, ok3⟩, ⟨hb, hf, rfl⟩, hr, hl⟩)
theorem tx_add {k : Str} {tk : Tok} {Q : Bool → Shared → Prop} (R : TxSet w s.heap a S c) (room : c + 1 < scanBound)
    (hQ : ∀ h', Heap.SameBut a s.heap h' → TxSet w h' a (fun j => S j || decide (j = k)) (if S k = true then c else c + 1) → Q (!S k) { s with heap := h' }) :
    wpAny (model P w) A (setAddHashed a (.str k tk) ((strKind P w).hash k)) Q E s := by
  obtain ⟨o, es, ep, t, ho, hx, hd, ⟨g, nd, hm⟩, ⟨hb, hf, hc⟩, hr, hl⟩ := R
  have sc : (Value.str k tk).scannable = true := rfl
  have el : ElemsOf (strKind P w) es.toList := tx_elems g
  unfold setAddHashed setAddHashedIn
  refine wpAny_holding (wpAny_bind (wpAny_setState_of ho hd hf ?_))
  dsimp only
  rw [byScan_of sc hb el]
  simp only [↓reduceIte]
  unfold setAddByScan
  refine wpAny_bind (wpAny_bind (wpAny_rule (wpAny_bind (wpAny_setScan_of (strKind_is P w k tk) ho hd hf el ?_))))
  cases hi : List.findIdx? (fun e => (strKind P w).is k e.2) es.toList with
  | some j =>
    dsimp only
    obtain ⟨hj, pj, _⟩ := List.findIdx?_eq_some_iff_getElem.mp hi
    have hS : S k = true := (hm k).mpr ((tx_mem (P := P) g k).mpr ⟨_, List.getElem_mem hj, pj⟩)
    refine wpAny_pure (wpAny_pure ?_)
    have z := hQ s.heap (Heap.SameBut.refl a s.heap) ⟨o, es, ep, t, ho, hx, hd, ⟨g, nd, fun i => ?_⟩, ⟨hb, hf, by rw [if_pos hS]; exact hc⟩, hr, hl⟩
    · rw [hS] at z; exact z
    · rw [Bool.or_eq_true, decide_eq_true_eq, ← hm i]
      exact ⟨fun z => z.elim id fun e => e ▸ hS, .inl⟩
  | none =>
    dsimp only
    have hn : k ∉ es.toList.map txOf := fun m => by
      obtain ⟨e, he, z⟩ := (tx_mem (P := P) g k).mp m
      have y := List.findIdx?_eq_none_iff.mp hi e he
      rw [z] at y
      cases y
    have hS : S k = false := Bool.eq_false_iff.mpr fun z => hn ((hm k).mp z)
    have gw : ∀ (b : Bool) {s1 : Shared} {Q' : Unit → Shared → Prop}, Q' () s1 → wpAny (model P w) A (match b with | true => rule "set.scan.the-table-gave-way" | false => pure ()) Q' E s1 :=
      fun b _ _ q => by
        cases b
        · exact wpAny_pure q
        · exact wpAny_rule q
    have p1 := layNew_perm t es ((strKind P w).hash k) (.str k tk)
    have p2 := layNew_fits t es ((strKind P w).hash k) (.str k tk)
    have p3 := layNew_ris t es ((strKind P w).hash k) (.str k tk) hr
    have p4 := layNew_led t es ((strKind P w).hash k) (.str k tk)
    generalize layNew t es ((strKind P w).hash k) (.str k tk) = Z at p1 p2 p3 p4 ⊢
    obtain ⟨fs, u, dummy, gave⟩ := Z
    dsimp only at p1 p2 p3 p4 ⊢
    rw [Array.toList_push] at p1
    have pc : fs.toList.Perm (((strKind P w).hash k, Value.str k tk) :: es.toList) := p1.trans (List.perm_append_singleton _ _)
    have pk : (fs.toList.map txOf).Perm (k :: es.toList.map txOf) := pc.map txOf
    have ok : (∀ e ∈ fs.toList, TxE w e) ∧ (fs.toList.map txOf).Nodup ∧ ∀ i, (S i || decide (i = k)) = true ↔ i ∈ fs.toList.map txOf := by
      refine ⟨fun e he => ?_, pk.nodup_iff.mpr (List.nodup_cons.mpr ⟨hn, nd⟩), fun i => ?_⟩
      · rcases List.mem_cons.mp (pc.mem_iff.mp he) with z | z
        · rw [z]; exact ⟨k, tk, rfl, rfl⟩
        · exact g e z
      · rw [Bool.or_eq_true, decide_eq_true_eq, hm i, pk.mem_iff, List.mem_cons]
        exact Or.comm
    have ez : fs.size = c + 1 := by rw [← Array.length_toList, pc.length_eq, List.length_cons, Array.length_toList, hc]
    have hb1 : fs.size < scanBound := by omega
    have hled : w.params.followText "set-order" = true ∨ u.led = true := hl.imp id fun z => by rw [p4]; exact z
    have fin : ∀ h', Heap.SameBut a s.heap h' → TxSet w h' a (fun j => S j || decide (j = k)) fs.size → Q true { s with heap := h' } := fun h' sb r => by
      have q := hQ h' sb
      rw [hS] at q
      rw [ez] at r
      exact q r
    refine wpAny_bind (gw _ ?_)
    split
    · refine wpAny_bind ?_
      rw [hashByValue_scannable 8 sc]
      refine wpAny_pure (tx_tail ?_ ho hx hd ok hb1 ?_ ?_ ?_ ?_)
      · intro b _ _ q
        cases b <;> first | exact wpAny_pure q | exact wpAny_rule q
      · first | (split <;> first | exact p2 | exact SetTable.fits_plain_off p2) | exact p2
      · first | (split <;> exact p3) | exact p3
      · first | (split <;> exact hled) | exact hled
      · intro h' sb r; dsimp only; exact wpAny_pure (fin h' sb r)
    · refine wpAny_bind (wpAny_pure ?_)
      simp only [↓reduceIte]
      refine tx_tail ?_ ho hx hd ok hb1 p2 p3 hled ?_
      · intro b _ _ q
        cases b <;> first | exact wpAny_pure q | exact wpAny_rule q
      · intro h' sb r; dsimp only; exact wpAny_pure (fin h' sb r)
/-- found.add(text) -/
theorem tx_add_call {k : Str} {tk : Tok} {Q : Value → Shared → Prop} (R : TxSet w s.heap a S c) (room : c + 1 < scanBound)
    (hQ : ∀ h', Heap.SameBut a s.heap h' → TxSet w h' a (fun j => S j || decide (j = k)) (if S k = true then c else c + 1) → Q .none { s with heap := h', toks := s.toks + 1 }) :
    wpAny (model P w) A (call (.builtin "set.add") [.ref a, .str k tk]) Q E s := by
  have hS : s.heap.SetOf (strKind P w) a S c := R.setOf
  refine wpAny_call_entry F.slot_set_add hS.typeIs F.entry_set_add ?_ (F.args_set_add_2 _ _)
  unfold Builtin.«set.add» Builtin.Frozenset.oneOther
  simp only [List.isEmpty_nil, bind_assoc]
  unfold Builtin.Frozenset.addrOf setAdd
  refine wpAny_bind (wpAny_pure ?_)
  try dsimp only
  refine wpAny_bind (wpAny_pure ?_)
  try dsimp only
  refine wpAny_bind (wpAny_holding (wpAny_bind ((strKind P w).pyHash (strKind_is P w k tk) ?_)))
  refine tx_add (s := { s with toks := s.toks + 1 }) R room fun h' sb r => ?_
  show wpAny _ _ (ret Value.none) _ _ _
  exact wpAny_pure ⟨_, rfl, hQ h' sb r⟩
end
/-! ### set(a tuple of texts) -/
section
variable {prog : Program} {w : World} {A : Around} {E : Value → Shared → Prop} {s : Shared}
theorem fresh_led {h : Heap} (w : World) : TxSet w (h.push { cls := .type "set", dict := none, data := .set #[] 0 (.fresh 0 0 (!w.params.followText "set-order")) }) h.objs.size (fun _ => false) 0 :=
  ⟨_, #[], 0, _, Heap.get?_push_size _ rfl, ⟨rfl, rfl, rfl⟩, rfl, ⟨fun e he => by simp at he, by simp, fun k => by simp⟩, ⟨by decide, by rfl, rfl⟩, List.Pairwise.nil, by
    show _ ∨ (!w.params.followText "set-order") = true
    cases w.params.followText "set-order"
    · exact .inr rfl
    · exact .inl rfl⟩
theorem new_led (a : Value) {Q1 : Value → Shared → Prop}
    (h : Q1 (.ref s.heap.objs.size) { s with heap := s.heap.push { cls := .type "set", dict := none, data := .set #[] 0 (.fresh 0 0 (!w.params.followText "set-order")) } }) :
    codeAny (model prog w) A (.call (.builtin "set.__new__") ⟨[.type "set", a], []⟩) (wants Q1 E) s := by
  refine codeAny_of_tree ?_
  show wpAny _ A.in1 (do checkBuiltinCall "set.__new__" ⟨[.type "set", a], []⟩; again (.builtin "set.__new__" ⟨[.type "set", a], []⟩)) _ _ s
  refine wpAny_bind (wpAny_of_eq (F.newCall_set_1 a) (wpAny_pure ⟨plainId_quiet F.plain_set_new _, codeAny_builtin F.entry_set_new ?_⟩))
  rw [Around.under_plainId F.plain_set_new _]
  unfold Builtin.«set.__new__» Builtin.Frozenset.newClass
  have hsub := sub_set_self
  obtain ⟨hp, g, d, tk, os⟩ := s
  dsimp only
  wp_walk
  refine wpAny_askSetting (wpAny_pure ?_)
  dsimp only
  simp only [newObj]
  exact wpAny_bind (wpAny_alloc (wpAny_pure (wpAny_pure h)))
variable {R : Result → Shared → Prop} {I : Addr} {fp wr : List Addr} {G : Array GenState → Array GenState → Prop} {n : Nat} {Pv : Nat → Value → Prop} {St : Nat → Shared → Prop}
/-- how many are in behind i turns: at most i, and i where none comes twice -/
def Cnt (xs : List Str) (i c : Nat) : Prop := c ≤ i ∧ (xs.Nodup → c = i)
theorem snoc_has (l : List Str) (y z : Str) : (l.contains z || decide (z = y)) = (l ++ [y]).contains z := by
  by_cases e : z = y
  · subst e; simp
  · simp [e]
theorem tx_loop (W : WalksS prog w A.in1 I fp wr G n Pv St) (B : Addr) (hB : B ∉ fp) (xs : List Str) (hlen : xs.length = n) (hn : n + 1 < scanBound) (hv : ∀ i v, Pv i v → ∃ t, v = .str (xs.getD i Str.empty) t) :
    ∀ (k i c : Nat) (s : Shared), n - i = k → i ≤ n → St i s → Cnt xs i c → TxSet w s.heap B (fun z => (xs.take i).contains z) c →
      (∀ s' c', Moved (B :: wr) G s s' → Cnt xs n c' → TxSet w s'.heap B (fun z => xs.contains z) c' → R (.ok (.ret .none)) s') →
      codeAny (model prog w) A (.builtin "set.update.loop" ⟨[.ref B, .ref I], []⟩) R s := by
  have hBw : B ∉ wr := fun m => hB (W.sub _ m)
  have up : ∀ b ∈ wr, b ∈ B :: wr := fun b m => List.mem_cons_of_mem _ m
  intro k
  induction k with
  | zero =>
    intro i c s hk hi hst hc hS hR
    have e : i = n := by omega
    subst e
    refine codeAny_builtin F.entry_set_update_loop ?_
    rw [Around.under_plainId F.plain_set_update_loop _]
    show wpAny _ A.in1 (pyNext (.ref I) >>= _) _ _ s
    refine wpAny_bind (W.done s _ _ hst fun s' hm => ?_)
    show wpAny _ A.in1 (ret Value.none) _ _ s'
    refine wpAny_pure (hR s' c (hm.mono up) hc ?_)
    have z := hS.at fun o q => hm.heap B o hBw q
    refine z.congr fun y => ?_
    rw [← hlen, List.take_length]
  | succ k ih =>
    intro i c s hk hi hst hc hS hR
    have lt : i < n := by omega
    refine codeAny_builtin F.entry_set_update_loop ?_
    rw [Around.under_plainId F.plain_set_update_loop _]
    show wpAny _ A.in1 (pyNext (.ref I) >>= _) _ _ s
    refine wpAny_bind (W.item i s _ _ lt hst fun v s' hP hst' hm => ?_)
    obtain ⟨t, rfl⟩ := hv i v hP
    have hS' := hS.at fun o q => hm.heap B o hBw q
    have lx : i < xs.length := by omega
    have ex : xs.getD i Str.empty = xs[i] := by rw [List.getD_eq_getElem?_getD, List.getElem?_eq_getElem lx]; rfl
    show wpAny _ A.in1 (holding [Value.str (xs.getD i Str.empty) t] (setAdd B (.str (xs.getD i Str.empty) t)) >>= _) _ _ s'
    refine wpAny_bind (wpAny_holding ?_)
    unfold setAdd
    refine wpAny_holding (wpAny_bind ((strKind prog w).pyHash (k := xs.getD i Str.empty) (strKind_is _ _ _ _) ?_))
    refine tx_add (s := { s' with toks := s'.toks + 1 }) hS' (by have := hc.1; omega) fun h' sb S2 => ?_
    have tk1 : xs.take (i + 1) = xs.take i ++ [xs[i]] := List.take_succ_eq_append_getElem lx
    have S3 := S2.congr (S' := fun z => (xs.take (i + 1)).contains z) fun z => by
      rw [tk1, ex]
      exact snoc_has ..
    have C3 : Cnt xs (i + 1) (if (xs.take i).contains (xs.getD i Str.empty) = true then c else c + 1) := by
      refine ⟨by have := hc.1; split <;> omega, fun nd => ?_⟩
      have e := hc.2 nd
      have no : ¬ (xs.take i).contains (xs.getD i Str.empty) = true := fun m => by
        rw [ex] at m
        have m2 : xs[i] ∈ xs.take i := by simpa using m
        obtain ⟨j, hj, e2⟩ := List.mem_iff_getElem.mp m2
        rw [List.length_take] at hj
        rw [List.getElem_take] at e2
        have := (List.getElem_inj nd).mp e2
        omega
      rw [if_neg no]
      omega
    refine wpAny_pure ⟨plainId_quiet F.plain_set_update_loop _, ih (i + 1) _ _ (by omega) lt (W.frame _ s' _ _ hst' (Nat.le_succ _) fun b hb o e => ?_) C3 S3 fun s'' c' hm2 hc2 S4 => ?_⟩
    · rw [sb.2 b fun z => hB (by rw [← z]; exact hb)]; exact e
    · refine hR s'' c' (Moved.trans W.gtrans ((hm.mono up).then_heap (Nat.le_succ _) fun b o hb e => ?_) hm2) hc2 S4
      rw [sb.2 b fun z => hb (by rw [z]; exact List.mem_cons_self)]; exact e
abbrev ledO (w : World) : Obj := { cls := .type "set", dict := none, data := .set #[] 0 (.fresh 0 0 (!w.params.followText "set-order")) }
set_option maxHeartbeats 6400000 in
theorem set_of_tuple {l : Addr} {items : Array Value} {xs : List Str} {Q : Value → Shared → Prop} (hh : A.handled = none) (hl : s.heap.IsTuple l items) (hi : StrsAre items.toList xs) (hn : items.size + 1 < scanBound)
    (h : ∀ (h' : Heap) (tk c : Nat), Cnt xs xs.length c → TxSet w h' s.heap.objs.size (fun z => xs.contains z) c → (∀ b o, b < s.heap.objs.size → s.heap.get? b = some o → h'.get? b = some o) → Q (.ref s.heap.objs.size) { s with heap := h', toks := tk }) :
    wpAny (model prog w) A (call (.type "set") [.ref l]) Q E s := by
  obtain ⟨cc, tl, hmro⟩ := F.called_set.mro
  have hmade := F.called_set.made
  have hsub := F.called_set.sub
  refine wpAny_call (codeAny_of_tree ?_)
  show wpAny _ _ (callAny (.type "set") _) _ _ _
  refine wpAny_pure ⟨Code.quiet_builtin _ (by decide +kernel), codeAny_builtin F.entry_type_call ?_⟩
  rw [Around.under_plain (weight_type_call_type "set" [.ref l] []) rfl]
  have h1 := F.called_set.notType
  have h2 := F.called_set.canCreate
  have hct := F.typeCall_set_1 (.ref l)
  repeat (any_goals (first | assumption | wp_step))
  refine codeAny_mono (new_led (.ref l) (E := E) (Q1 := fun obj s1 => obj = .ref s.heap.objs.size ∧ s1 = { s with heap := s.heap.push (ledO w) }) ⟨rfl, rfl⟩) fun r s1 hr => ?_
  cases r with
  | error e => exact hr
  | ok fl =>
    cases fl with
    | ret obj =>
      obtain ⟨rfl, rfl⟩ := hr
      have hS : (s.heap.push (ledO w)).get? s.heap.objs.size = some (ledO w) := Heap.get?_push_size _ rfl
      have hT : Shared.TypeIs { s with heap := s.heap.push (ledO w) } (.ref s.heap.objs.size) "set" := ⟨_, hS, rfl⟩
      have hli := F.called_set.init.lookup
      have hbi := F.called_set.init.bind (.ref s.heap.objs.size)
      repeat (any_goals (first | assumption | wp_step))
      refine codeAny_mono (codeAny_call_builtin (R := wants (fun r s2 => r = .none ∧ ∃ h' tk c, s2 = { s with heap := h', toks := tk } ∧ Cnt xs xs.length c ∧ TxSet w h' s.heap.objs.size (fun z => xs.contains z) c ∧
          (∀ b o, b < s.heap.objs.size → s.heap.get? b = some o → h'.get? b = some o)) E) F.called_set.init.plain F.entry_set_init (check_set_init_1 hT ?_)) fun r2 s2 hr2 => ?_
      · obtain ⟨ol, hol, hcl, nl, hdl⟩ := hl
        obtain ⟨ocls, odict, odata, oslots⟩ := ol
        simp only at hcl hdl
        subst hcl; subst hdl
        have hol' : (s.heap.push (ledO w)).get? l = some { cls := .type "tuple", dict := odict, data := .seq items nl, slots := oslots } := Heap.get?_push_of_some _ hol
        have hsls := F.sub_tuple_set
        have hslf := F.sub_tuple_frozenset
        have hne : (Value.type "tuple" == Value.type "dict") = false := by decide
        have hl1 : (s.heap.push (ledO w)).IsTuple l items := ⟨_, hol', rfl, nl, rfl⟩
        unfold Builtin.«set.__init__» noKeywords Builtin.Frozenset.updateFrom
        generalize hPI : pyIter = PI
        wp_walk
        subst hPI
        refine wpAny_pyIter_tuple hl1 ?_
        refine wpAny_bind (wpAny_runValue ?_)
        have hlS : l < s.heap.objs.size := Heap.lt_size hol
        have hh3 : A.in1.in1.in1.handled = none := by simp [hh]
        have zI : (s.heap.push (ledO w)).objs.size = s.heap.objs.size + 1 := Heap.size_push _ _
        have hneI : l ≠ (s.heap.push (ledO w)).objs.size := by rw [zI]; exact Nat.ne_of_lt (Nat.lt_succ_of_lt hlS)
        have hBf : s.heap.objs.size ∉ [(s.heap.push (ledO w)).objs.size, l] := by
          rw [zI]
          simp only [List.mem_cons, List.not_mem_nil, or_false, not_or]
          exact ⟨Nat.ne_of_lt (Nat.lt_succ_self _), Nat.ne_of_gt hlS⟩
        have hsz : xs.length = items.size := by rw [← StrsAre.len_eq hi, Array.length_toList]
        have hval : ∀ (i : Nat) (v : Value), items[i]? = some v → ∃ t, v = .str (xs.getD i Str.empty) t := fun i v hv => SS.strs_at hi i v (by rw [Array.getElem?_toList]; exact hv)
        refine tx_loop ((Walks.tuple hh3 _ l hneI items).toS) s.heap.objs.size hBf xs hsz hn hval (items.size - 0) 0 0 _ (by omega) (Nat.zero_le _) ⟨⟨_, Heap.get?_push_size _ rfl, rfl, rfl⟩, (hl1.push _)⟩ ⟨Nat.le_refl _, fun _ => rfl⟩ ?hS0 ?hR
        case hS0 => exact TxSet.at (fresh_led (h := s.heap) w) fun o q => Heap.get?_push_of_some _ q
        case hR =>
          intro s' c' hm hc' hS'
          obtain ⟨h', g', d', tk', os'⟩ := s'
          obtain rfl : g' = s.gens := hm.gens
          obtain rfl : d' = s.drawn := hm.drawn
          obtain rfl : os' = s.os := hm.os
          show wpAny _ _ _ _ _ _
          refine wpAny_pure ?_
          show wpAny _ _ (ret Value.none) _ _ _
          refine wpAny_pure ⟨rfl, h', tk', c', rfl, by rw [hsz]; exact hc', hS', fun b o hb e => ?_⟩
          refine hm.heap b o ?_ (Heap.get?_push_of_some _ (Heap.get?_push_of_some _ e))
          rw [zI]
          simp only [List.mem_cons, List.not_mem_nil, or_false, not_or]
          exact ⟨Nat.ne_of_lt hb, Nat.ne_of_lt (Nat.lt_succ_of_lt hb)⟩
      · cases r2 with
        | error e => exact hr2
        | ok fl2 =>
          cases fl2 with
          | ret r =>
            obtain ⟨rfl, h', tk, c, rfl, hc, hS', hk'⟩ := hr2
            repeat (any_goals (first | assumption | wp_step))
            exact h _ _ _ hc hS' hk'
          | _ => exact hr2.elim
    | _ => exact hr.elim
end
/-! ### sorted(a set of texts) -/
section
variable {P : Program} {w : World} {A : Around} {E : Value → Shared → Prop} {s : Shared} {a : Addr} {S : Str → Bool} {c : Nat}
theorem strs_of : ∀ (l : List Value), (∀ v ∈ l, ∃ x tk, v = Value.str x tk) → ∃ xs, StrsAre l xs ∧ xs = l.map fun v => txOf (0, v)
  | [], _ => ⟨[], .nil, rfl⟩
  | v :: l, h => by
    obtain ⟨x, tk, rfl⟩ := h v List.mem_cons_self
    obtain ⟨xs, r, e⟩ := strs_of l fun u hu => h u (List.mem_cons_of_mem _ hu)
    exact ⟨x :: xs, .cons x tk r, by rw [e]; rfl⟩
theorem sorted_txset {Q : Value → Shared → Prop} (R : TxSet w s.heap a S c) (hh : A.handled = none) (h64 : c < 64)
    (hQ : ∀ s' p (out : Array Value) (k : Nat) (ys : List Str), (∀ b o, s.heap.get? b = some o → s'.heap.get? b = some o) → s'.gens = s.gens → s'.os = s.os → s.heap.objs.size ≤ p →
      s'.heap.get? p = some (seqObj "list" out k) → StrsAre out.toList ys → ys.Nodup → (∀ z, z ∈ ys ↔ S z = true) → ys.length = c → Q (.ref p) s') :
    wpAny (model P w) A (call (.builtin "sorted") [.ref a]) Q E s := by
  obtain ⟨o, es, ep, t, ho, hx, hd, ⟨g, nd, hm⟩, ⟨hb, hf, hc⟩, hr, hl⟩ := R
  refine Calls.call_function_entry kind_sorted plain_sorted entry_sorted (args_sorted1 _) ?_
  unfold Builtin.«sorted»
  refine wpAny_bind (m := checkCount "sorted" 1 1 _) (wpAny_pure ?_)
  refine wpAny_bind (collect_set (A := A.in1) hh ⟨o, ho, hx.1, hd⟩ hf hb hr hl fun s1 vs k1 hz g1 o1 pm => ?_)
  have hvl : vs.length = c := by rw [pm.length_eq, List.length_map, Array.length_toList]; exact hc
  obtain ⟨xs, hX, ex⟩ := strs_of vs fun v hv => by
    obtain ⟨e, he, q⟩ := List.mem_map.mp (pm.mem_iff.mp hv)
    obtain ⟨x, tk, e1, _⟩ := g e he
    exact ⟨x, tk, by rw [← q]; exact e1⟩
  have pk : xs.Perm (es.toList.map txOf) := by
    have q := pm.map fun v => txOf (0, v)
    rw [List.map_map] at q
    rw [ex]
    exact q
  refine wpAny_bind (wpAny_newList ?_ (by rw [hvl, sizeLine_eq]; omega))
  have hoL : (s1.heap.push (seqObj "list" vs.toArray 0)).get? s1.heap.objs.size = some (seqObj "list" vs.toArray 0) := Heap.get?_push_size _ rfl
  refine wpAny_bind (wpAny_holding (wpAny_call_entry slot_list_sort ⟨_, hoL, rfl⟩ entry_list_sort
    (list_sort_treeK strKind_oneLt hoL hX.keysOf (fun v1 v2 rest e => keyKind_strs (by rw [← e]; exact hX)) (by rw [hvl]; exact h64) fun st' hp hs => ⟨_, rfl, ?_⟩) (args_list_sort _)))
  obtain ⟨ys, y1, y2, _⟩ := sorted_out_str hX hp hs
  obtain ⟨k, hk⟩ := sortedHeap_at (vs := vs) (out := (arrOf st').map (·.2)) hoL
  have pn : ys.Perm (es.toList.map txOf) := y2.trans pk
  refine wpAny_pure ⟨_, rfl, hQ _ s1.heap.objs.size _ k ys (fun b u e => ?_) g1 o1 hz hk y1 (pn.nodup_iff.mpr nd) (fun z => by rw [pn.mem_iff, ← hm z]) ?_⟩
  · have q := k1 b u e
    have lt := Heap.lt_size q
    show (sortedHeap (s1.heap.push (seqObj "list" vs.toArray 0)) s1.heap.objs.size vs _).get? b = some u
    rw [sortedHeap_old (Nat.ne_of_lt lt) (by rw [size_push']; exact Nat.lt_succ_of_lt lt)]
    exact Heap.get?_push_of_some _ q
  · rw [pn.length_eq, List.length_map, Array.length_toList]; exact hc
end
/-! ### how many at most -/
theorem nodup_len {α : Type} [DecidableEq α] : ∀ {l m : List α}, l.Nodup → (∀ x ∈ l, x ∈ m) → l.length ≤ m.length
  | [], m, _, _ => Nat.zero_le _
  | x :: l, m, nd, h => by
    have hx := h x List.mem_cons_self
    have nd2 := List.nodup_cons.mp nd
    have q := nodup_len (l := l) (m := m.erase x) nd2.2 fun y hy => by
      have e : y ≠ x := fun e => nd2.1 (e ▸ hy)
      exact (List.mem_erase_of_ne e).mpr (h y (List.mem_cons_of_mem _ hy))
    have z := List.length_erase_of_mem hx
    have p := List.length_pos_of_mem hx
    show l.length + 1 ≤ m.length
    omega
theorem TxSet.few {w : World} {h : Heap} {a : Addr} {S : Str → Bool} {c : Nat} (R : TxSet w h a S c) {A : List Str} (hA : ∀ k, S k = true → k ∈ A) : c ≤ A.length := by
  obtain ⟨o, es, ep, t, ho, hx, hd, ⟨g, nd, hm⟩, ⟨hb, hf, hc⟩, hr, hl⟩ := R
  have q := nodup_len nd fun x hx => hA x ((hm x).mpr hx)
  rw [List.length_map, Array.length_toList, hc] at q
  exact q
/-! ### over the layer -/
def TxO (w : World) (a : Addr) (S : Str → Bool) (c : Nat) : HO := .ext fun h => TxSet w h a S c
section
variable {X : Cx}
theorem txO_new {w : World} {P : Program} {H : Hp} {h : Heap} {a : Addr} {S : Str → Bool} {c : Nat} (R : TxSet w h a S c) : ObjOk P w H h a (TxO w a S c) := by
  have ⟨o, _, _, _, ho, _⟩ := R
  exact ⟨R, ⟨o, ho⟩, fun _ _ p k => TxSet.at p k⟩
theorem txO_get {pins : List (Addr × Obj)} {σ : L2.St} {H : Hp} {s : Shared} {a : Addr} {S : Str → Bool} {c : Nat} (I : Inv X pins σ H s) (ha : H a = some (TxO X.w a S c)) : TxSet X.w s.heap a S c := (I.hok a _ ha).1
/-- set(t), t a tuple of texts -/
def rSetT (K : PySem.W.Frag) (w : World) : List V → Hp → VK → Prop := fun vs H Q => ∃ (t : Addr) (xs : List Str), vs = [V.ref t] ∧ SqT K H t (xs.map V.str) ∧ xs.length ≤ 1000 ∧
  ∀ p c, Cnt xs xs.length c → H p = none → Q (.ref p) (upd H p (TxO w p (fun z => xs.contains z) c))
theorem cr_setT (hc : X.calm = true) : CallR X (.type "set") (rSetT X.K X.w) := by
  intro pins s σ H vs us Q I r h
  obtain ⟨t, xs, rfl, hq, hz, q⟩ := h
  rw [Vals.ref1 r]
  obtain ⟨its, rv, pl, _⟩ := I.tuple hq
  have hl : its.length = xs.length := by rw [← rv.length, List.length_map]
  refine set_of_tuple (I.ok.hd hc) pl (by simpa using strsAre_of rv) (by rw [List.size_toArray, hl]; unfold scanBound; omega) fun h' tk c hc hS hk => ?_
  exact ⟨.ref _, upd H s.heap.objs.size (TxO X.w s.heap.objs.size (fun z => xs.contains z) c), I.laid (t' := tk) (fun b u e => hk b u (Heap.lt_size e) e) (Nat.le_refl _) (txO_new hS), rfl, q _ c hc (I.hok.fresh (Nat.le_refl _))⟩
/-- len of such a set -/
theorem cr_lenTx : CallR X (.builtin "len") (fun vs H Q => ∃ (a : Addr) (S : Str → Bool) (c : Nat), vs = [V.ref a] ∧ H a = some (TxO X.w a S c) ∧ c ≤ 2000 ∧ Q (.int c) H) := by
  intro pins s σ H vs us Q I r h
  obtain ⟨a, S, c, rfl, ha, hz, q⟩ := h
  rw [Vals.ref1 r]
  obtain ⟨o, es, ep, t, ho, hx, hd, _, ⟨_, hf, hc⟩, _⟩ := txO_get I ha
  exact call_len_set ho hx hd hf (by omega) ⟨.int c, H, I.tok _, ⟨_, by rw [hc]⟩, q⟩
/-- found.add(x) -/
def rTxAdd (w : World) : V → List V → Hp → VK → Prop := fun x xs H Q => ∃ (a : Addr) (k : Str) (S : Str → Bool) (c : Nat), x = V.ref a ∧ xs = [V.str k] ∧ H a = some (TxO w a S c) ∧ (∃ A : List Str, A.length ≤ 1000 ∧ ∀ k, S k = true → k ∈ A) ∧
  Q .non (upd H a (TxO w a (fun j => S j || decide (j = k)) (if S k = true then c else c + 1)))
theorem mt_txadd : MtR X "set.add" (rTxAdd X.w) := by
  intro pins s σ H x xs v us Q I rx rxs h
  obtain ⟨a, k, S, c, rfl, rfl, ha, ⟨A, hA1, hA2⟩, q⟩ := h
  have room : c + 1 < scanBound := by
    have := (txO_get I ha).few hA2
    unfold scanBound
    omega
  cases rx
  obtain ⟨u, rfl, tk, rfl⟩ := vals1 rxs
  refine tx_add_call (txO_get I ha) room fun h' sb new => ?_
  have he : ∃ u, h'.get? a = some u := by
    have ⟨o, _, _, _, ho, _⟩ := new
    exact ⟨o, ho⟩
  exact ⟨.non, upd H a (TxO X.w a (fun j => S j || decide (j = k)) (if S k = true then c else c + 1)), I.write (e := a) (t' := s.toks + 1) (by rw [ha]; trivial) (.inl rfl) (fun b u hb hu => (sb.2 b hb).trans hu) he (txO_new new), rfl, q⟩
def tTxAdd (w : World) (to : TE) (t : TA) : TE := fun σ H Q => to σ H fun x H1 => (∃ a S c, x = V.ref a ∧ H1 a = some (TxO w a S c)) ∧ t σ H1 fun xs H2 => rTxAdd w x xs H2 Q
variable {o e : Expr} {es : List Expr} {to : TE} {t : TA} {apos cpos : Pos}
theorem pe_txadd (ho : PE X o to) (ha : PA X (e :: es) t) (hbase : attributeBase o "add" X.env (eval o X.env) = eval o X.env := by rfl)
    (hfew : ((backTo cpos (starEach (e :: es) X.env)).all (fun x => !x.1) && (backToKw cpos (keywordEach [] X.env)).all (fun x => x.1.isSome)
      && decide ((e :: es).length + ([] : List Keyword).length + (if ([] : List Keyword).isEmpty then 0 else 1) < 30)) = true := by rfl)
    (hline : (apos.endLine == cpos.line) = true := by rfl) (hs : starEach (e :: es) X.env = (false, eval e X.env) :: starEach es X.env := by rfl) (hpl : (backTo cpos (starEach es X.env)).any (·.1) = false := by rfl) :
    PE X (.Call (.Attribute o "add" apos) (e :: es) [] cpos) (tTxAdd X.w to t) := by
  refine ⟨fun pins s σ H Q I h => ?_⟩
  refine wpAny_Call_method_late hbase hfew hline rfl (thn (ho.run pins s σ H _ I h) fun v s1 ⟨x, H1, I1, r1, ty, q1⟩ => ?_)
  obtain ⟨a, S, c, rfl, hka⟩ := ty
  have hS : s1.heap.SetOf (strKind X.prog X.w) a S c := (txO_get I1 hka).setOf
  cases r1
  refine ⟨"set", "set.add", F.plainAttrs_set, F.slot_set_add, F.type_set_add, hS.typeIs, hS.noDict, ?_⟩
  have hA := ha.run cpos pins s1 σ H1 _ I1 q1
  rw [hs] at hA ⊢
  refine Calls.callWith_builtin (by show (false || (backTo cpos (starEach es X.env)).any (·.1)) = false; rw [hpl] <;> rfl) (Calls.evalArgs_plain ?_)
  exact thn hA fun us s2 ⟨vs, H2, I2, r2, q2⟩ => mt_txadd pins s2 σ H2 (.ref a) vs (.ref a) us Q I2 rfl r2 q2
/-- sorted(found), fewer than 64 -/
def rSortedTx (w : World) : List V → Hp → VK → Prop := fun vs H Q => ∃ (a : Addr) (S : Str → Bool) (c : Nat), vs = [V.ref a] ∧ H a = some (TxO w a S c) ∧ (∃ A : List Str, A.length ≤ 63 ∧ ∀ k, S k = true → k ∈ A) ∧
  ∀ (ys : List Str) (p : Addr), ys.Nodup → (∀ z, z ∈ ys ↔ S z = true) → ys.length = c → H p = none → Q (.ref p) (upd H p (.lst (ys.map V.str)))
theorem cr_sortedTx (hc : X.calm = true) : CallR X (.builtin "sorted") (rSortedTx X.w) := by
  intro pins s σ H vs us Q I r h
  obtain ⟨a, S, c, rfl, ha, ⟨A, hA1, hA2⟩, q⟩ := h
  have h64 : c < 64 := by
    have := (txO_get I ha).few hA2
    omega
  rw [Vals.ref1 r]
  refine sorted_txset (txO_get I ha) (I.ok.hd hc) h64 fun s' p out k ys kp g o hp hg hi nd hm hl => ?_
  have hlen : (ys.map V.str).length ≤ sizeLine := by rw [List.length_map, hl, sizeLine_eq]; omega
  have hn : H p = none := I.hok.fresh hp
  have J : Inv X pins σ (upd H p (.lst (ys.map V.str))) { s with heap := s'.heap, gens := s'.gens, drawn := s'.drawn, toks := s'.toks } :=
    I.call (ch := []) (Un.laid kp hp hn) (I.hok.laid kp hp ⟨hlen, out.toList, k, vals_of_strs hi, hg⟩) (by rw [g]; exact I.bare) (fun _ z => nomatch z)
  have e : s' = { s with heap := s'.heap, gens := s'.gens, drawn := s'.drawn, toks := s'.toks } := by
    cases s'
    cases s
    cases o
    rfl
  rw [e]
  exact ⟨.ref p, _, J, rfl, q ys p nd hm hl hn⟩
end
end Say
set_option maxRecDepth 100000
set_option maxHeartbeats 4000000
/-! what a formula is made of -/
namespace Say
open PySem PySem.Spec PyProof.Rows L2 Fm
section
variable {P : Program} {w : World} {K : PySem.W.Frag} {mg : Str → Option Value} {base : Heap} {f : Addr}
local macro_rules | `(tactic| walk_at "w") => `(tactic| first
  | refine ifT (by decide +kernel) ?_
  | refine ifF (by decide +kernel) ?_
  | refine ⟨_, rfl, rfl, _, rfl, ?_⟩
  | refine ⟨_, rfl, _, _, rfl, .inr ((‹Tx _ _ _›).qus.2 _), rfl, rfl, _, rfl, ?_⟩
  | refine ⟨_, rfl, _, _, rfl, .inr ((‹Tx _ _ _›).fix.2 _), rfl, rfl, _, rfl, ?_⟩
  | fail)
def spInner (K : PySem.W.Frag) : Sp := fun vs H Q _ => ∃ f v, vs = [v] ∧ Rp K H f v ∧ ∀ p us H', Ext [] H H' → SqT K H' p us → Rps K H' (kids f) us → Q (.ref p) H'
theorem inner_new {f g : Fm} {u : V} {H : Hp} {Q : VK} (q : ∀ (p : Addr) (us : List V) (H' : Hp), Ext [] H H' → SqT K H' p us → Rps K H' (kids f) us → Q (.ref p) H') (e : kids f = [g]) (h : Rp K H g u) :
    [u].length ≤ sizeLine ∧ ∀ p, H p = none → Q (.ref p) (upd H p (.tup [u])) :=
  ⟨sz 1 rfl, fun p hp => q p [u] _ (.new hp) (SqT.of upd_same) (by rw [e]; exact Rps.one (Rp.ext (.new (S := []) hp) g h))⟩
theorem inner_nil {f : Fm} {H : Hp} {Q : VK} (q : ∀ (p : Addr) (us : List V) (H' : Hp), Ext [] H H' → SqT K H' p us → Rps K H' (kids f) us → Q (.ref p) H') (e : kids f = []) :
    ([] : List V).length ≤ sizeLine ∧ ∀ p, H p = none → Q (.ref p) (upd H p (.tup [])) :=
  ⟨sz 0 rfl, fun p hp => q p [] _ (.new hp) (SqT.of upd_same) (by rw [e]; rfl)⟩
theorem sc_inner : FnScope ["formula", "word"] ["formula"] (defScope s_inner) := ⟨rfl, rfl, rfl, by decide +kernel, rfl, by decide +kernel, by decide +kernel⟩
theorem hs_inner (T : Tx w K mg) (D : Dn K mg "inner" s_inner f) : Hs P w K mg base CX0 1 "inner" ["formula"] (spInner K) := by
  refine Hs.of D sc_inner (fun vs H Q E h => ?_) (fun _ _ _ _ _ _ us hl => match us, hl with | [_], _ => rfl) (fun cdv A outer s H vs Q E hr h => ?_)
  · obtain ⟨f, v, rfl, _⟩ := h
    rfl
  obtain ⟨f, v, rfl, hf, q⟩ := h
  refine ⟨_, PSs.nox (pss_cons (ps_set (i := 1) sc_inner.nd rfl (by first | exact Or.inl rfl | exact Or.inr rfl) (pe_ix ix_tup (pv 0) pe_int (fun _ _ => rfl)))
      (pss_cons (ps_if (PW.pt (pw_or (pt_cmpR op_eq (pv 1) pe_str (nomark _)) (pw_or1 (pt_cmpR op_eq (pv 1) pe_str (nomark _))))) (pss_one (ps_ret (pe_ix ix_tup (pv 0) pe_int (fun _ _ => rfl)))) pss_nil)
      (pss_cons (ps_if (pt_cmpR op_eq (pv 1) pe_str (nomark _)) (pss_one (ps_ret (pe_tup (pa_cons (pe_ix ix_tup (pv 0) pe_int (fun _ _ => rfl)) pa_nil)))) pss_nil)
      (pss_cons (ps_if (PW.pt (pw_or (pt_cmpR op_in_seq (pv 1) (pe_glob (v := .ref (He.ga K "QUANTIFIERS")) rfl T.qus.1 rfl) rfl) (pw_or1 (pt_cmpR op_eq (pv 1) pe_str (nomark _))))) (pss_one (ps_ret (pe_tup (pa_cons (pe_ix ix_tup (pv 0) pe_int (fun _ _ => rfl)) pa_nil)))) pss_nil)
      (pss_cons (ps_if (PW.pt (pw_or (pt_cmpR op_in_seq (pv 1) (pe_glob (v := .ref (He.ga K "FIXED")) rfl T.fix.1 rfl) rfl) (pw_or1 (pt_cmpR op_eq (pv 1) pe_str (nomark _))))) (pss_one (ps_ret (pe_tup (pa_cons (pe_ix ix_tup (pv 0) pe_int (fun _ _ => rfl)) pa_nil)))) pss_nil)
      (pss_one (ps_ret (pe_tup pa_nil)))))))), ?_⟩
  cases f with
  | rel nm args =>
    obtain ⟨a, b, rfl, h1, h2⟩ := hf
    refine ⟨_, rfl, _, _, _, _, rfl, rfl, h1, rfl, ?_⟩
    repeat' walk_at "w"
    exact inner_nil q rfl
  | cmp c x y =>
    obtain ⟨a, rfl, h1⟩ := hf
    refine ⟨_, rfl, _, _, _, _, rfl, rfl, h1, rfl, ?_⟩
    cases c <;> (repeat' walk_at "w") <;> exact inner_nil q rfl
  | neg g =>
    obtain ⟨a, u, rfl, h1, h2⟩ := hf
    refine ⟨_, rfl, _, _, _, _, rfl, rfl, h1, rfl, ?_⟩
    repeat' walk_at "w"
    refine ⟨_, rfl, _, _, _, _, rfl, rfl, h1, rfl, ?_⟩
    exact inner_new q rfl h2
  | jn c fs =>
    obtain ⟨a, b, us, rfl, h1, h2, h3⟩ := hf
    refine ⟨_, rfl, _, _, _, _, rfl, rfl, h1, rfl, ?_⟩
    cases c <;> (repeat' walk_at "w") <;> exact ⟨_, rfl, _, _, _, _, rfl, rfl, h1, rfl, q _ _ _ .refl h2 h3⟩
  | qu c vs g =>
    obtain ⟨a, b, u, rfl, h1, h2, h3⟩ := hf
    refine ⟨_, rfl, _, _, _, _, rfl, rfl, h1, rfl, ?_⟩
    cases c <;> (repeat' walk_at "w") <;> exact ⟨_, rfl, _, _, _, _, rfl, rfl, h1, rfl, inner_new q rfl h3⟩
  | fx l nm vs g args =>
    obtain ⟨a, b, c, u, rfl, h1, h2, h3, h4⟩ := hf
    refine ⟨_, rfl, _, _, _, _, rfl, rfl, h1, rfl, ?_⟩
    cases l <;> (repeat' walk_at "w") <;> exact ⟨_, rfl, _, _, _, _, rfl, rfl, h1, rfl, inner_new q rfl h4⟩
  | tc vs g args =>
    obtain ⟨a, b, c, u, rfl, h1, h2, h3, h4⟩ := hf
    refine ⟨_, rfl, _, _, _, _, rfl, rfl, h1, rfl, ?_⟩
    (repeat' walk_at "w") <;> exact ⟨_, rfl, _, _, _, _, rfl, rfl, h1, rfl, inner_new q rfl h4⟩
  | gs nm ar g =>
    obtain ⟨a, u, rfl, h1, h2⟩ := hf
    refine ⟨_, rfl, _, _, _, _, rfl, rfl, h1, rfl, ?_⟩
    (repeat' walk_at "w") <;> exact ⟨_, rfl, _, _, _, _, rfl, rfl, h1, rfl, inner_new q rfl h2⟩
/-! ### what it binds, what stands in it itself -/
local macro_rules | `(tactic| walk_at "z") => `(tactic| first
  | refine ifT (by decide +kernel) ?_
  | refine ifF (by decide +kernel) ?_
  | refine ⟨_, rfl, rfl, _, rfl, ?_⟩
  | refine ⟨_, rfl, _, _, rfl, .inr ((‹Tx _ _ _›).qus.2 _), rfl, rfl, _, rfl, ?_⟩
  | refine ⟨_, rfl, _, _, rfl, .inr ((‹Tx _ _ _›).fix.2 _), rfl, rfl, _, rfl, ?_⟩
  | refine ⟨_, rfl, _, _, _, _, rfl, rfl, (by assumption), (by rfl), rfl, _, rfl, ?_⟩
  | refine ⟨_, rfl, _, _, _, _, rfl, rfl, (by assumption), (by rfl), _, _, rfl, .inr ((‹Tx _ _ _›).qus.2 _), (by rfl), rfl, _, (by rfl), ?_⟩
  | refine ⟨_, rfl, _, _, _, _, rfl, rfl, (by assumption), (by rfl), _, _, rfl, .inr ((‹Tx _ _ _›).fix.2 _), (by rfl), rfl, _, (by rfl), ?_⟩
  | fail)
def spTup (K : PySem.W.Frag) (xs : List V) (H : Hp) (Q : VK) : Prop := ∀ p H', Ext [] H H' → SqT K H' p xs → Q (.ref p) H'
theorem tup_nil {H : Hp} {Q : VK} (q : spTup K [] H Q) : ([] : List V).length ≤ sizeLine ∧ ∀ p, H p = none → Q (.ref p) (upd H p (.tup [])) :=
  ⟨sz 0 rfl, fun p hp => q p _ (.new hp) (SqT.of upd_same)⟩
def spOwnV (K : PySem.W.Frag) : Sp := fun vs H Q _ => ∃ f v, vs = [v] ∧ Rp K H f v ∧ spTup K (sv (ownV f)) H Q
theorem sc_own_variables : FnScope ["formula"] ["formula"] (defScope s_own_variables) := ⟨rfl, rfl, rfl, by decide +kernel, rfl, by decide +kernel, by decide +kernel⟩
theorem hs_ownV (T : Tx w K mg) (D : Dn K mg "own_variables" s_own_variables f) : Hs P w K mg base CX0 1 "own_variables" ["formula"] (spOwnV K) := by
  refine Hs.of D sc_own_variables (fun vs H Q E h => ?_) (fun _ _ _ _ _ _ us hl => match us, hl with | [_], _ => rfl) (fun cdv A outer s H vs Q E hr h => ?_)
  · obtain ⟨f, v, rfl, _⟩ := h
    rfl
  obtain ⟨f, v, rfl, hf, q⟩ := h
  refine ⟨_, PSs.nox (pss_cons (ps_if (PW.pt (pw_or (pt_cmpR op_in_seq (pe_ix ix_tup (pv 0) pe_int (fun _ _ => rfl)) (pe_glob (v := .ref (He.ga K "QUANTIFIERS")) rfl T.qus.1 rfl) rfl) (pw_or1 (pt_cmpR op_eq (pe_ix ix_tup (pv 0) pe_int (fun _ _ => rfl)) pe_str (nomark _))))) (pss_one (ps_ret (pe_ix ix_tup (pv 0) pe_int (fun _ _ => rfl)))) pss_nil)
      (pss_cons (ps_if (pt_cmpR op_in_seq (pe_ix ix_tup (pv 0) pe_int (fun _ _ => rfl)) (pe_glob (v := .ref (He.ga K "FIXED")) rfl T.fix.1 rfl) rfl) (pss_one (ps_ret (pe_ix ix_tup (pv 0) pe_int (fun _ _ => rfl)))) pss_nil)
      (pss_one (ps_ret (pe_tup pa_nil))))), ?_⟩
  cases f with
  | rel nm args =>
    obtain ⟨a, b, rfl, h1, h2⟩ := hf
    repeat' walk_at "z"
    exact tup_nil q
  | cmp c x y =>
    obtain ⟨a, rfl, h1⟩ := hf
    cases c <;> (repeat' walk_at "z") <;> exact tup_nil q
  | neg g =>
    obtain ⟨a, u, rfl, h1, h2⟩ := hf
    repeat' walk_at "z"
    exact tup_nil q
  | jn c fs =>
    obtain ⟨a, b, us, rfl, h1, h2, h3⟩ := hf
    cases c <;> (repeat' walk_at "z") <;> exact tup_nil q
  | qu c vs g =>
    obtain ⟨a, b, u, rfl, h1, h2, h3⟩ := hf
    cases c <;> (repeat' walk_at "z") <;> exact ⟨_, rfl, _, _, _, _, rfl, rfl, h1, rfl, q _ _ .refl h2⟩
  | fx l nm vs g args =>
    obtain ⟨a, b, c, u, rfl, h1, h2, h3, h4⟩ := hf
    cases l <;> (repeat' walk_at "z") <;> exact ⟨_, rfl, _, _, _, _, rfl, rfl, h1, rfl, q _ _ .refl h2⟩
  | tc vs g args =>
    obtain ⟨a, b, c, u, rfl, h1, h2, h3, h4⟩ := hf
    (repeat' walk_at "z") <;> exact ⟨_, rfl, _, _, _, _, rfl, rfl, h1, rfl, q _ _ .refl h2⟩
  | gs nm ar g =>
    obtain ⟨a, u, rfl, h1, h2⟩ := hf
    (repeat' walk_at "z") <;> exact tup_nil q
def spOwnA (K : PySem.W.Frag) : Sp := fun vs H Q _ => ∃ f v, vs = [v] ∧ Rp K H f v ∧ spTup K (sv (ownA f)) H Q
theorem sc_own_arguments : FnScope ["formula", "word"] ["formula"] (defScope s_own_arguments) := ⟨rfl, rfl, rfl, by decide +kernel, rfl, by decide +kernel, by decide +kernel⟩
theorem hs_ownA (T : Tx w K mg) (D : Dn K mg "own_arguments" s_own_arguments f) : Hs P w K mg base CX0 1 "own_arguments" ["formula"] (spOwnA K) := by
  refine Hs.of D sc_own_arguments (fun vs H Q E h => ?_) (fun _ _ _ _ _ _ us hl => match us, hl with | [_], _ => rfl) (fun cdv A outer s H vs Q E hr h => ?_)
  · obtain ⟨f, v, rfl, _⟩ := h
    rfl
  obtain ⟨f, v, rfl, hf, q⟩ := h
  refine ⟨_, PSs.nox (pss_cons (ps_set (i := 1) sc_own_arguments.nd rfl (by first | exact Or.inl rfl | exact Or.inr rfl) (pe_ix ix_tup (pv 0) pe_int (fun _ _ => rfl)))
      (pss_cons (ps_if (pt_cmpR op_eq (pv 1) pe_str (nomark _)) (pss_one (ps_ret (pe_ix ix_tup (pv 0) pe_int (fun _ _ => rfl)))) pss_nil)
      (pss_cons (ps_if (PW.pt (pw_or (pt_cmpR op_eq (pv 1) pe_str (nomark _)) (pw_or1 (pt_cmpR op_eq (pv 1) pe_str (nomark _))))) (pss_one (ps_ret (pe_tup (pa_cons (pe_ix ix_tup (pv 0) pe_int (fun _ _ => rfl)) (pa_cons (pe_ix ix_tup (pv 0) pe_int (fun _ _ => rfl)) pa_nil))))) pss_nil)
      (pss_cons (ps_if (pt_cmpR op_in_seq (pv 1) (pe_glob (v := .ref (He.ga K "FIXED")) rfl T.fix.1 rfl) rfl) (pss_one (ps_ret (pe_ix ix_tup (pv 0) pe_int (fun _ _ => rfl)))) pss_nil)
      (pss_cons (ps_if (pt_cmpR op_eq (pv 1) pe_str (nomark _)) (pss_one (ps_ret (pe_ix ix_tup (pv 0) pe_int (fun _ _ => rfl)))) pss_nil)
      (pss_one (ps_ret (pe_tup pa_nil)))))))), ?_⟩
  cases f with
  | rel nm args =>
    obtain ⟨a, b, rfl, h1, h2⟩ := hf
    refine ⟨_, rfl, _, _, _, _, rfl, rfl, h1, rfl, ?_⟩
    repeat' walk_at "w"
    exact ⟨_, rfl, _, _, _, _, rfl, rfl, h1, rfl, q _ _ .refl h2⟩
  | cmp c x y =>
    obtain ⟨a, rfl, h1⟩ := hf
    refine ⟨_, rfl, _, _, _, _, rfl, rfl, h1, rfl, ?_⟩
    cases c <;> (repeat' walk_at "w") <;> exact ⟨_, rfl, _, _, _, _, rfl, rfl, h1, rfl, _, rfl, _, _, _, _, rfl, rfl, h1, rfl, sz 2 rfl, fun p hp => q p _ (.new hp) (SqT.of upd_same)⟩
  | neg g =>
    obtain ⟨a, u, rfl, h1, h2⟩ := hf
    refine ⟨_, rfl, _, _, _, _, rfl, rfl, h1, rfl, ?_⟩
    repeat' walk_at "w"
    exact tup_nil q
  | jn c fs =>
    obtain ⟨a, b, us, rfl, h1, h2, h3⟩ := hf
    refine ⟨_, rfl, _, _, _, _, rfl, rfl, h1, rfl, ?_⟩
    cases c <;> (repeat' walk_at "w") <;> exact tup_nil q
  | qu c vs g =>
    obtain ⟨a, b, u, rfl, h1, h2, h3⟩ := hf
    refine ⟨_, rfl, _, _, _, _, rfl, rfl, h1, rfl, ?_⟩
    cases c <;> (repeat' walk_at "w") <;> exact tup_nil q
  | fx l nm vs g args =>
    obtain ⟨a, b, c, u, rfl, h1, h2, h3, h4⟩ := hf
    refine ⟨_, rfl, _, _, _, _, rfl, rfl, h1, rfl, ?_⟩
    cases l <;> (repeat' walk_at "w") <;> exact ⟨_, rfl, _, _, _, _, rfl, rfl, h1, rfl, q _ _ .refl h3⟩
  | tc vs g args =>
    obtain ⟨a, b, c, u, rfl, h1, h2, h3, h4⟩ := hf
    refine ⟨_, rfl, _, _, _, _, rfl, rfl, h1, rfl, ?_⟩
    (repeat' walk_at "w") <;> exact ⟨_, rfl, _, _, _, _, rfl, rfl, h1, rfl, q _ _ .refl h3⟩
  | gs nm ar g =>
    obtain ⟨a, u, rfl, h1, h2⟩ := hf
    refine ⟨_, rfl, _, _, _, _, rfl, rfl, h1, rfl, ?_⟩
    (repeat' walk_at "w") <;> exact tup_nil q
/-- its own name: None, or a new pair -/
def OwnN (K : PySem.W.Frag) (o : Option (Str × Nat)) (H : Hp) (Q : VK) : Prop := (o = none → Q .non H) ∧ ∀ nm k, o = some (nm, k) → ∀ p H', Ext [] H H' → SqT K H' p [.str nm, .int (k : Nat)] → Q (.ref p) H'
def spOwnN (K : PySem.W.Frag) : Sp := fun vs H Q _ => ∃ f v, vs = [v] ∧ Rp K H f v ∧ OwnN K (ownN f) H Q
theorem sc_own_name : FnScope ["formula"] ["formula"] (defScope s_own_name) := ⟨rfl, rfl, rfl, by decide +kernel, rfl, by decide +kernel, by decide +kernel⟩
theorem hs_ownN (T : Tx w K mg) (D : Dn K mg "own_name" s_own_name f) : Hs P w K mg base CX0 1 "own_name" ["formula"] (spOwnN K) := by
  refine Hs.of D sc_own_name (fun vs H Q E h => ?_) (fun _ _ _ _ _ _ us hl => match us, hl with | [_], _ => rfl) (fun cdv A outer s H vs Q E hr h => ?_)
  · obtain ⟨f, v, rfl, _⟩ := h
    rfl
  obtain ⟨f, v, rfl, hf, q⟩ := h
  refine ⟨_, PSs.nox (pss_cons (ps_if (pt_cmpR op_in_seq (pe_ix ix_tup (pv 0) pe_int (fun _ _ => rfl)) (pe_glob (v := .ref (He.ga K "FIXED")) rfl T.fix.1 rfl) rfl) (pss_one (ps_ret (pe_tup (pa_cons (pe_ix ix_tup (pv 0) pe_int (fun _ _ => rfl)) (pa_cons (pe_callB call_len_seq (by rfl) T.zlen PySem.boot_len (pa_cons (pe_ix ix_tup (pv 0) pe_int (fun _ _ => rfl)) pa_nil)) pa_nil))))) pss_nil)
      (pss_cons (ps_if (pt_cmpR op_eq (pe_ix ix_tup (pv 0) pe_int (fun _ _ => rfl)) pe_str (nomark _)) (pss_one (ps_ret (pe_tup (pa_cons (pe_ix ix_tup (pv 0) pe_int (fun _ _ => rfl)) (pa_cons (pe_ix ix_tup (pv 0) pe_int (fun _ _ => rfl)) pa_nil))))) pss_nil)
      (pss_one (ps_ret pe_non)))), ?_⟩
  cases f with
  | rel nm args =>
    obtain ⟨a, b, rfl, h1, h2⟩ := hf
    repeat' walk_at "z"
    exact q.1 rfl
  | cmp c x y =>
    obtain ⟨a, rfl, h1⟩ := hf
    cases c <;> (repeat' walk_at "z") <;> exact q.1 rfl
  | neg g =>
    obtain ⟨a, u, rfl, h1, h2⟩ := hf
    repeat' walk_at "z"
    exact q.1 rfl
  | jn c fs =>
    obtain ⟨a, b, us, rfl, h1, h2, h3⟩ := hf
    cases c <;> (repeat' walk_at "z") <;> exact q.1 rfl
  | qu c vs g =>
    obtain ⟨a, b, u, rfl, h1, h2, h3⟩ := hf
    cases c <;> (repeat' walk_at "z") <;> exact q.1 rfl
  | fx l nm vs g args =>
    obtain ⟨a, b, c, u, rfl, h1, h2, h3, h4⟩ := hf
    have e : (sv vs).length = vs.length := List.length_map _
    cases l <;> (repeat' walk_at "z") <;> refine ⟨_, rfl, _, _, _, _, rfl, rfl, h1, rfl, _, rfl, _, _, _, _, rfl, rfl, h1, rfl, _, _, rfl, .inr h2, sz 2 rfl, fun p hp => ?_⟩ <;>
      exact q.2 nm vs.length rfl p _ (.new hp) (by rw [← e]; exact SqT.of upd_same)
  | tc vs g args =>
    obtain ⟨a, b, c, u, rfl, h1, h2, h3, h4⟩ := hf
    (repeat' walk_at "z") <;> exact q.1 rfl
  | gs nm ar g =>
    obtain ⟨a, u, rfl, h1, h2⟩ := hf
    (repeat' walk_at "z") <;> exact ⟨_, rfl, _, _, _, _, rfl, rfl, h1, rfl, _, rfl, _, _, _, _, rfl, rfl, h1, rfl, sz 2 rfl, fun p hp => q.2 nm ar rfl p _ (.new hp) (SqT.of upd_same)⟩
/-! ### the same of other parts (first-order ones) -/
def rb : Fm → List Fm → Fm
  | neg _, g :: _ => neg g
  | jn c _, zs => jn c zs
  | qu c vs _, g :: _ => qu c vs g
  | f, _ => f
def spRebuilt (K : PySem.W.Frag) : Sp := fun vs H Q _ => ∃ f v l us zs, vs = [v, .ref l] ∧ Rp K H f v ∧ fo f = true ∧ SqL K H l us ∧ Rps K H zs us ∧ zs.length = (kids f).length ∧ us.length ≤ 1000 ∧
  ∀ v' H', Ext [] H H' → Rp K H' (rb f zs) v' → Q v' H'
theorem sc_rebuilt : FnScope ["formula", "parts", "word"] ["formula", "parts"] (defScope s_rebuilt) := ⟨rfl, rfl, rfl, by decide +kernel, rfl, by decide +kernel, by decide +kernel⟩
theorem hs_rebuilt (T : Tx w K mg) (D : Dn K mg "rebuilt" s_rebuilt f) : Hs P w K mg base CX0 1 "rebuilt" ["formula", "parts"] (spRebuilt K) := by
  refine Hs.of D sc_rebuilt (fun vs H Q E h => ?_) (fun _ _ _ _ _ _ us hl => match us, hl with | [_, _], _ => rfl) (fun cdv A outer s H vs Q E hr h => ?_)
  · obtain ⟨f, v, l, us, zs, rfl, _⟩ := h
    rfl
  obtain ⟨f, v, l, us, zs, rfl, hf, hfo, hl, hs, hlen, hz, q⟩ := h
  refine ⟨_, PSs.nox (pss_cons (ps_set (i := 2) sc_rebuilt.nd rfl (by first | exact Or.inl rfl | exact Or.inr rfl) (pe_ix ix_tup (pv 0) pe_int (fun _ _ => rfl)))
      (pss_cons (ps_if (PW.pt (pw_or (pt_cmpR op_eq (pv 2) pe_str (nomark _)) (pw_or1 (pt_cmpR op_eq (pv 2) pe_str (nomark _))))) (pss_one (ps_ret (pe_tup (pa_cons (pv 2) (pa_cons (pe_callTy call_tuple_of (by rfl) T.ztuple (by decide +kernel) (pa_cons (pv 1) pa_nil)) pa_nil))))) pss_nil)
      (pss_cons (ps_if (pt_cmpR op_eq (pv 2) pe_str (nomark _)) (pss_one (ps_ret (pe_tup (pa_cons (pv 2) (pa_cons (pe_ix ix_list (pv 1) pe_int (fun _ _ => rfl)) pa_nil))))) pss_nil)
      (pss_cons (ps_if (pt_cmpR op_in_seq (pv 2) (pe_glob (v := .ref (He.ga K "QUANTIFIERS")) rfl T.qus.1 rfl) rfl) (pss_one (ps_ret (pe_tup (pa_cons (pv 2) (pa_cons (pe_ix ix_tup (pv 0) pe_int (fun _ _ => rfl)) (pa_cons (pe_ix ix_list (pv 1) pe_int (fun _ _ => rfl)) pa_nil)))))) pss_nil)
      (pss_cons (ps_if (pt_cmpR op_eq (pv 2) pe_str (nomark _)) (pss_one (ps_ret (pe_tup (pa_cons (pv 2) (pa_cons (pe_ix ix_tup (pv 0) pe_int (fun _ _ => rfl)) (pa_cons (pe_ix ix_list (pv 1) pe_int (fun _ _ => rfl)) (pa_cons (pe_ix ix_tup (pv 0) pe_int (fun _ _ => rfl)) pa_nil))))))) pss_nil)
      (pss_cons (ps_if (pt_cmpR op_in_seq (pv 2) (pe_glob (v := .ref (He.ga K "FIXED")) rfl T.fix.1 rfl) rfl) (pss_one (ps_ret (pe_tup (pa_cons (pv 2) (pa_cons (pe_ix ix_tup (pv 0) pe_int (fun _ _ => rfl)) (pa_cons (pe_ix ix_tup (pv 0) pe_int (fun _ _ => rfl)) (pa_cons (pe_ix ix_list (pv 1) pe_int (fun _ _ => rfl)) (pa_cons (pe_ix ix_tup (pv 0) pe_int (fun _ _ => rfl)) pa_nil)))))))) pss_nil)
      (pss_cons (ps_if (pt_cmpR op_eq (pv 2) pe_str (nomark _)) (pss_one (ps_ret (pe_tup (pa_cons (pv 2) (pa_cons (pe_ix ix_tup (pv 0) pe_int (fun _ _ => rfl)) (pa_cons (pe_ix ix_tup (pv 0) pe_int (fun _ _ => rfl)) (pa_cons (pe_ix ix_list (pv 1) pe_int (fun _ _ => rfl)) pa_nil))))))) pss_nil)
      (pss_one (ps_ret (pv 0)))))))))), ?_⟩
  cases f with
  | rel nm args =>
    have hf' := hf
    obtain ⟨a, b, rfl, h1, h2⟩ := hf
    refine ⟨_, rfl, _, _, _, _, rfl, rfl, h1, rfl, ?_⟩
    repeat' walk_at "w"
    exact ⟨_, rfl, q _ _ .refl hf'⟩
  | cmp c x y =>
    have hf' := hf
    obtain ⟨a, rfl, h1⟩ := hf
    refine ⟨_, rfl, _, _, _, _, rfl, rfl, h1, rfl, ?_⟩
    cases c <;> (repeat' walk_at "w") <;> exact ⟨_, rfl, q _ _ .refl hf'⟩
  | neg g =>
    obtain ⟨a, u, rfl, h1, h2⟩ := hf
    refine ⟨_, rfl, _, _, _, _, rfl, rfl, h1, rfl, ?_⟩
    repeat' walk_at "w"
    match zs, hs, hlen with
    | [g'], ⟨u', r, e, hu, er⟩, _ =>
      have er : r = [] := er
      subst e er
      exact ⟨_, rfl, _, rfl, _, _, _, _, rfl, rfl, hl, rfl, sz 2 rfl, fun p hp => q _ _ (.new hp) ⟨p, u', rfl, SqT.of upd_same, Rp.ext (.new (S := []) hp) g' hu⟩⟩
  | jn c fs =>
    obtain ⟨a, b, us0, rfl, h1, h2, h3⟩ := hf
    refine ⟨_, rfl, _, _, _, _, rfl, rfl, h1, rfl, ?_⟩
    cases c <;> (repeat' walk_at "w") <;> refine ⟨_, rfl, _, rfl, _, _, rfl, .inl ⟨hl, fun b' hb => ⟨sz 2 rfl, fun p hp => ?_⟩⟩⟩ <;>
      refine q _ _ ((Ext.new hb).add hp) ⟨p, b', us, rfl, SqT.of upd_same, ?_, Rps.ext ((Ext.new (S := []) hb).add hp) hs⟩ <;>
      exact Ext.tup (S := []) (.new hp) (SqT.of upd_same)
  | qu c vs g =>
    obtain ⟨a, b, u, rfl, h1, h2, h3⟩ := hf
    refine ⟨_, rfl, _, _, _, _, rfl, rfl, h1, rfl, ?_⟩
    match zs, hs, hlen with
    | [g'], ⟨u', r, e, hu, er⟩, _ =>
      have er : r = [] := er
      subst e er
      cases c <;> (repeat' walk_at "w") <;> exact ⟨_, rfl, _, rfl, _, _, _, _, rfl, rfl, h1, rfl, _, rfl, _, _, _, _, rfl, rfl, hl, rfl, sz 3 rfl, fun p hp => q _ _ (.new hp) ⟨p, b, u', rfl, SqT.of upd_same, Ext.tup (S := []) (.new hp) h2, Rp.ext (.new (S := []) hp) g' hu⟩⟩
  | fx l nm vs g args => cases hfo
  | tc vs g args => cases hfo
  | gs nm ar g => cases hfo
end
end Say
set_option maxRecDepth 100000
set_option maxHeartbeats 4000000
/-! names, lists of names, what is well made -/
namespace Say
open PySem PySem.Spec PyProof.Rows L2 Fm
section
variable {X : Cx} {d : Addr} {o e : Expr} {apos cpos : Pos} {td ty : TE}
/-- d.get(word), d a dict of the module, the word is in it -/
theorem pe_kget (D : ∃ es n, KDict X.K X.w d es n) (ho : PE X o td) (he : PE X e ty) (m : M1 X o "get" apos e cpos) :
    PE X (.Call (.Attribute o "get" apos) [e] [] cpos) (fun σ H Q => td σ H fun x H1 => x = .ref d ∧ ty σ H1 fun y H2 => ∃ (z : Str) (v : V), y = .str z ∧ (∃ u, PySem.W.nsIn X.K d z = some (some u) ∧ RelV v u) ∧ Q v H2) := by
  obtain ⟨es, n, D⟩ := D
  refine ⟨fun pins s σ H Q I h => ?_⟩
  refine wpAny_Call_method m.base m.few m.line PySem.F.plainAttrs_dict PySem.F.slot_dict_get PySem.F.type_dict_get (thn (ho.run pins s σ H _ I h) fun u s1 ⟨x, H1, I1, rx, ex, q1⟩ => ?_)
  subst ex
  obtain rfl : u = Value.ref d := rx
  refine ⟨kd_type D I1, (PySem.W.mapOf_K (prog := X.prog) (w := X.w) I1.kIn D.at_ D.lit).noDict, ?_⟩
  rw [m.trees]
  refine Calls.callWith_builtin rfl (Calls.evalArgs_plain (Calls.spliced_cons (thn (he.run pins s1 σ H1 _ I1 q1) fun iv s2 ⟨y, H2, I2, ry, z, v, ey, ⟨u, k, r⟩, q2⟩ => Calls.spliced_nil ?_)))
  subst ey
  obtain ⟨t, rfl⟩ := ry
  refine call_meetsIn PySem.F.slot_dict_get (kd_type D I2) PySem.F.entry_dict_get (PySem.F.args_dict_get_2 _ _) (meets_dict_get (strKind X.prog X.w) d (strKind_is X.prog X.w z t) D.low) ⟨_, PySem.W.mapOf_K (prog := X.prog) (w := X.w) I2.kIn D.at_ D.lit, ?_⟩
  rw [PySem.W.find_K D.at_ k]
  exact ⟨v, H2, I2.tok _, r, q2⟩
end
section
variable {P : Program} {w : World} {K : PySem.W.Frag} {mg : Str → Option Value} {base : Heap} {f : Addr}
theorem kII : PySem.W.kitOne K (.type "int") (.type "int") = some true := kit_ty (by decide +kernel)
theorem kIB : PySem.W.kitOne K (.type "int") (.type "bool") = some false := kit_ty (by decide +kernel)
theorem kSS : PySem.W.kitOne K (.type "str") (.type "str") = some true := kit_ty (by decide +kernel)
theorem kTT : PySem.W.kitOne K (.type "tuple") (.type "tuple") = some true := kit_ty (by decide +kernel)
def spIsInt : Sp := fun vs H Q _ => ∃ i, vs = [.int i] ∧ Q (.bl true) H
theorem sc_is_integer : FnScope ["value"] ["value"] (defScope s_is_integer) := ⟨rfl, rfl, rfl, by decide +kernel, rfl, by decide +kernel, by decide +kernel⟩
theorem hs_is_integer (T : Tx w K mg) (D : Dn K mg "is_integer" s_is_integer f) : Hs P w K mg base CX0 1 "is_integer" ["value"] spIsInt := by
  refine Hs.of D sc_is_integer (fun vs H Q E h => ?_) (fun _ _ _ _ _ _ us hl => match us, hl with | [_], _ => rfl) (fun cdv A outer s H vs Q E hr h => ?_)
  · obtain ⟨f, rfl, _⟩ := h
    rfl
  obtain ⟨i, rfl, q⟩ := h
  refine ⟨_, PSs.nox (pss_one (ps_ret (pe_and (pe_callB call_isi (by rfl) T.isi (by decide +kernel) (pa_cons (pv 0) (pa_cons (pe_bltn (v := .ty "int") rfl T.zint (by decide +kernel) rfl) pa_nil))) (pe_one (pe_not (pe_callB call_isi (by rfl) T.isi (by decide +kernel) (pa_cons (pv 0) (pa_cons (pe_bltn (v := .ty "bool") rfl T.zbool (by decide +kernel) rfl) pa_nil)))))))), ?_⟩
  refine ⟨_, rfl, _, _, _, _, _, rfl, .ty _, .base (.int _), kII, _, rfl, ?_⟩
  refine ifT rfl ?_
  exact ⟨_, rfl, _, _, _, _, _, rfl, .ty _, .base (.int _), kIB, _, rfl, q⟩
def spBelow : Sp := fun vs H Q _ => ∃ i j : Int, vs = [.int i, .int j] ∧ 0 ≤ i ∧ i < j ∧ Q (.bl true) H
theorem sc_is_below : FnScope ["value", "bound"] ["value", "bound"] (defScope s_is_below) := ⟨rfl, rfl, rfl, by decide +kernel, rfl, by decide +kernel, by decide +kernel⟩
theorem hs_is_below (T : Tx w K mg) (D : Dn K mg "is_below" s_is_below f) (h_is_integer : Hs P w K mg base CX0 1 "is_integer" ["value"] spIsInt) : Hs P w K mg base CX0 2 "is_below" ["value", "bound"] spBelow := by
  refine Hs.of D sc_is_below (fun vs H Q E h => ?_) (fun _ _ _ _ _ _ us hl => match us, hl with | [_, _], _ => rfl) (fun cdv A outer s H vs Q E hr h => ?_)
  · obtain ⟨i, j, rfl, _⟩ := h
    rfl
  obtain ⟨i, j, rfl, h0, h1, q⟩ := h
  refine ⟨_, PSs.nox (pss_one (ps_ret (pe_and (pe_h h_is_integer (hr.mono (by omega)) rfl pass0 (pa_cons (pv 0) pa_nil)) (pe_one (pe_chain op_le op_lt pe_int (pv 0) (pv 1)))))), ?_⟩
  refine ⟨_, rfl, _, rfl, _, rfl, ?_⟩
  refine ifT rfl ?_
  refine ⟨_, rfl, _, _, rfl, rfl, _, rfl, ?_⟩
  refine ifT (decide_eq_true h0) ?_
  refine ⟨_, rfl, _, _, rfl, rfl, ?_⟩
  show Q (.bl (decide (i < j))) H
  rw [decide_eq_true h1]
  exact q
def spIsName : Sp := fun vs H Q _ => ∃ x, vs = [.str x] ∧ nmOk x ∧ Q (.bl true) H
theorem sc_is_name : FnScope ["text", "sign"] ["text"] (defScope s_is_name) := ⟨rfl, rfl, rfl, by decide +kernel, rfl, by decide +kernel, by decide +kernel⟩
theorem hs_is_name (T : Tx w K mg) (D : Dn K mg "is_name" s_is_name f) : Hs P w K mg base CX0 1 "is_name" ["text"] spIsName := by
  refine Hs.of D sc_is_name (fun vs H Q E h => ?_) (fun _ _ _ _ _ _ us hl => match us, hl with | [_], _ => rfl) (fun cdv A outer s H vs Q E hr h => ?_)
  · obtain ⟨x, rfl, _⟩ := h
    rfl
  obtain ⟨x, rfl, ⟨⟨l1, l2⟩, h1, h2, h3⟩, q⟩ := h
  refine ⟨_, PSs.nox (pss_cons (ps_if (PW.pt (pw_or (pt_not (pt_val (pe_callB call_isi (by rfl) T.isi (by decide +kernel) (pa_cons (pv 0) (pa_cons (pe_bltn (v := .ty "str") rfl T.zstr (by decide +kernel) rfl) pa_nil))))) (pw_or1 (pt_not (pt_chain op_le op_le pe_int (pe_callB call_len_str (by rfl) T.zlen PySem.boot_len (pa_cons (pv 0) pa_nil)) (pe_glob (v := .int 12) rfl T.longest.choose_spec ⟨_, rfl⟩)))))) (pss_one (ps_ret pe_bl)) pss_nil)
      (pss_cons (ps_if (PW.pt (pw_or (pt_cmpR op_notIn_sign (pe_ix ix_str (pv 0) pe_int (fun _ _ => rfl)) (pe_glob (v := .str "abcdefghijklmnopqrstuvwxyz") rfl T.letters.choose_spec ⟨_, rfl⟩) rfl) (pw_or1 (pt_cmpR op_in_seq (pv 0) (pe_glob (v := .ref (He.ga K "WORDS")) rfl T.words.1 rfl) rfl)))) (pss_one (ps_ret pe_bl)) pss_nil)
      (pss_cons (ps_for PassesOwn.never rfl (pi_str (pv 0)) (pg_name (i := 1) sc_is_name.nd rfl (by first | exact Or.inl rfl | exact Or.inr rfl)) (pss_one (ps_if (PW.pt (pw_and (pt_cmpR op_notIn_sign (pv 1) (pe_glob (v := .str "abcdefghijklmnopqrstuvwxyz") rfl T.letters.choose_spec ⟨_, rfl⟩) rfl) (pw_and1 (pt_cmpR op_notIn_sign (pv 1) (pe_glob (v := .str "0123456789") rfl T.figures.choose_spec ⟨_, rfl⟩) rfl)))) (pss_one (ps_ret pe_bl)) pss_nil)))
      (pss_one (ps_ret pe_bl))))), ?_⟩
  have hl : x.cps.toList.length = x.length := by simp [Str.length]
  obtain ⟨c, hc⟩ : ∃ c, x.cps.toList[0]? = some c := ⟨_, List.getElem?_eq_getElem (by omega)⟩
  have hh : x.cps.toList.head? = some c := by rw [List.head?_eq_getElem?]; exact hc
  rw [hh] at h1
  have hc1 : c ∈ letters.cps.toList := by simpa using h1
  refine ⟨_, rfl, _, _, _, _, _, rfl, .ty _, .base (.str _), kSS, _, rfl, ?_⟩
  refine ifF rfl ?_
  refine ⟨_, rfl, _, rfl, small_sz (by omega), _, _, rfl, rfl, _, rfl, ?_⟩
  refine ifT (decide_eq_true (by omega)) ?_
  refine ⟨_, _, rfl, rfl, _, rfl, ?_⟩
  refine ifF (by rw [decide_eq_true (by omega)]; rfl) ?_
  refine ⟨_, rfl, _, _, _, rfl, rfl, small_sz (by omega), atI_nat (j := 0) hc, ?_⟩
  refine ⟨_, _, rfl, rfl, _, rfl, ?_⟩
  refine ifF (by show (!decide (c ∈ letters.cps.toList)) = false; rw [decide_eq_true hc1]; rfl) ?_
  refine ⟨_, rfl, _, _, rfl, .inr (T.words.2 _), rfl, flat_sv _, _, rfl, ?_⟩
  refine ifF (by rw [inV_sv]; exact h2) ?_
  refine ⟨_, rfl, _, rfl, for_str (fun i σ H' => (∃ o, σ = [some (.str x), o]) ∧ H' = H) ⟨⟨_, rfl⟩, rfl⟩ (fun i c σ H' hx ⟨⟨o, e⟩, e2⟩ => ?_) (fun σ H' ⟨⟨o, e⟩, e2⟩ => ?_)⟩
  · subst e e2
    have hm : c ∈ x.cps.toList := by
      rw [← Array.getElem?_toList] at hx
      exact List.mem_of_getElem? hx
    have h4 := List.all_eq_true.mp h3 c hm
    have h4 : c ∈ letters.cps.toList ∨ c ∈ figures.cps.toList := by simpa using h4
    refine ⟨_, rfl, _, _, rfl, rfl, _, rfl, ?_⟩
    by_cases hl : c ∈ letters.cps.toList
    · refine ifF (by show (!decide (c ∈ letters.cps.toList)) = false; rw [decide_eq_true hl]; rfl) ?_
      exact ifF rfl ⟨⟨_, rfl⟩, rfl⟩
    · refine ifT (by show (!decide (c ∈ letters.cps.toList)) = true; rw [decide_eq_false hl]; rfl) ?_
      refine ⟨_, rfl, _, _, rfl, rfl, _, rfl, ?_⟩
      refine ifF (by show (!decide (c ∈ figures.cps.toList)) = false; rw [decide_eq_true (h4.resolve_left hl)]; rfl) ?_
      exact ⟨⟨_, rfl⟩, rfl⟩
  · subst e e2
    exact q
def spAreNames (K : PySem.W.Frag) : Sp := fun vs H Q _ => ∃ a xs, ∃ l m : Int, vs = [.ref a, .int l, .int m] ∧ SqT K H a (sv xs) ∧ (∀ x ∈ xs, nmOk x) ∧ l ≤ xs.length ∧ xs.length ≤ m ∧ Q (.bl true) H
theorem sc_are_names : FnScope ["value", "least", "most", "name"] ["value", "least", "most"] (defScope s_are_names) := ⟨rfl, rfl, rfl, by decide +kernel, rfl, by decide +kernel, by decide +kernel⟩
theorem hs_are_names (T : Tx w K mg) (D : Dn K mg "are_names" s_are_names f) (h_is_name : Hs P w K mg base CX0 1 "is_name" ["text"] spIsName) : Hs P w K mg base CX0 2 "are_names" ["value", "least", "most"] (spAreNames K) := by
  refine Hs.of D sc_are_names (fun vs H Q E h => ?_) (fun _ _ _ _ _ _ us hl => match us, hl with | [_, _, _], _ => rfl) (fun cdv A outer s H vs Q E hr h => ?_)
  · obtain ⟨a, xs, l, m, rfl, _⟩ := h
    rfl
  obtain ⟨a, xs, l, m, rfl, ha, hn, h1, h2, q⟩ := h
  have hlen : (sv xs).length = xs.length := List.length_map _
  refine ⟨_, PSs.nox (pss_cons (ps_if (PW.pt (pw_or (pt_not (pt_val (pe_callB call_isi (by rfl) T.isi (by decide +kernel) (pa_cons (pv 0) (pa_cons (pe_bltn (v := .ty "tuple") rfl T.ztuple (by decide +kernel) rfl) pa_nil))))) (pw_or1 (pt_not (pt_chain op_le op_le (pv 1) (pe_callB call_len_seq (by rfl) T.zlen PySem.boot_len (pa_cons (pv 0) pa_nil)) (pv 2)))))) (pss_one (ps_ret pe_bl)) pss_nil)
      (pss_cons (ps_for PassesOwn.never rfl (pi_tup (pv 0)) (pg_name (i := 3) sc_are_names.nd rfl (by first | exact Or.inl rfl | exact Or.inr rfl)) (pss_one (ps_if (pt_not (pt_val (pe_h h_is_name (hr.mono (by omega)) rfl pass0 (pa_cons (pv 3) pa_nil)))) (pss_one (ps_ret pe_bl)) pss_nil)))
      (pss_one (ps_ret pe_bl)))), ?_⟩
  refine ⟨_, rfl, _, _, _, _, _, rfl, .ty _, tyx ha, kTT, _, rfl, ?_⟩
  refine ifF rfl ?_
  refine ⟨_, rfl, _, rfl, _, _, rfl, .inr ha, _, _, rfl, rfl, _, rfl, ?_⟩
  refine ifT (decide_eq_true (by omega)) ?_
  refine ⟨_, rfl, _, _, rfl, rfl, _, rfl, ?_⟩
  refine ifF (by rw [decide_eq_true (by omega)]; rfl) ?_
  refine ⟨_, rfl, _, rfl, ⟨_, ha⟩, for_tup (xs := sv xs) (fun i σ H' => (∃ o, σ = [some (.ref a), some (.int l), some (.int m), o]) ∧ H' = H) ⟨⟨_, rfl⟩, rfl⟩ (fun i σ H' _ z => by rw [z.2]; exact ha) (fun i x σ H' hx ⟨⟨o, e⟩, e2⟩ => ?_) (fun σ H' ⟨⟨o, e⟩, e2⟩ => ?_)⟩
  · subst e e2
    obtain ⟨y, hy, rfl⟩ := List.mem_map.mp (List.mem_of_getElem? hx)
    refine ⟨_, rfl, _, rfl, hn y hy, _, rfl, ?_⟩
    exact ifF rfl ⟨⟨_, rfl⟩, rfl⟩
  · subst e e2
    exact q
def spAreVars (K : PySem.W.Frag) : Sp := fun vs H Q _ => ∃ a xs, ∃ l m : Int, vs = [.ref a, .int l, .int m] ∧ SqT K H a (sv xs) ∧ (∀ x ∈ xs, nmOk x) ∧ xs.Nodup ∧ xs.length ≤ 1000 ∧ l ≤ xs.length ∧ xs.length ≤ m ∧ ∀ H', Ext [] H H' → Q (.bl true) H'
theorem sc_are_variables : FnScope ["value", "least", "most"] ["value", "least", "most"] (defScope s_are_variables) := ⟨rfl, rfl, rfl, by decide +kernel, rfl, by decide +kernel, by decide +kernel⟩
theorem hs_are_variables (T : Tx w K mg) (D : Dn K mg "are_variables" s_are_variables f) (h_are_names : Hs P w K mg base CX0 2 "are_names" ["value", "least", "most"] (spAreNames K)) : Hs P w K mg base CX0 3 "are_variables" ["value", "least", "most"] (spAreVars K) := by
  refine Hs.of D sc_are_variables (fun vs H Q E h => ?_) (fun _ _ _ _ _ _ us hl => match us, hl with | [_, _, _], _ => rfl) (fun cdv A outer s H vs Q E hr h => ?_)
  · obtain ⟨a, xs, l, m, rfl, _⟩ := h
    rfl
  obtain ⟨a, xs, l, m, rfl, ha, hx, nd, hz, h1, h2, q⟩ := h
  have hlen : (sv xs).length = xs.length := List.length_map _
  refine ⟨_, PSs.nox (pss_one (ps_ret (pe_and (pe_h h_are_names (hr.mono (by omega)) rfl pass0 (pa_cons (pv 0) (pa_cons (pv 1) (pa_cons (pv 2) pa_nil)))) (pe_one (pe_cmpR op_eq (pe_callB cr_lenTx (by rfl) T.zlen PySem.boot_len (pa_cons (pe_callTy (cr_setT rfl) (by rfl) T.zset (by decide +kernel) (pa_cons (pv 0) pa_nil)) pa_nil)) (pe_callB call_len_seq (by rfl) T.zlen PySem.boot_len (pa_cons (pv 0) pa_nil)) (nomark _)))))), ?_⟩
  refine ⟨_, rfl, _, rfl, _, rfl, _, _, _, _, rfl, ha, hx, h1, h2, _, rfl, ?_⟩
  refine ifT rfl ?_
  refine ⟨_, rfl, _, _, rfl, ha, hz, fun p c hc hp => ?_⟩
  refine ⟨_, _, _, rfl, upd_same, by have := hc.1; omega, ?_⟩
  refine ⟨_, rfl, _, _, rfl, .inr (Ext.tup (S := []) (.new hp) ha), ?_⟩
  show rEq (V.int c) (V.int (sv xs).length) _ Q
  rw [hlen, hc.2 nd]
  refine ⟨rfl, ?_⟩
  rw [decide_eq_true rfl]
  exact q _ (.new hp)
/-! ### what is well made -/
local macro_rules | `(tactic| walk_at "w") => `(tactic| first
  | refine ifT (by decide +kernel) ?_
  | refine ifF (by decide +kernel) ?_
  | refine ⟨_, rfl, rfl, _, rfl, ?_⟩
  | refine ⟨_, rfl, _, _, rfl, .inr ((‹Tx _ _ _›).qus.2 _), rfl, rfl, _, rfl, ?_⟩
  | refine ⟨_, rfl, _, _, rfl, .inr ((‹Tx _ _ _›).fix.2 _), rfl, rfl, _, rfl, ?_⟩
  | fail)
def spWm (K : PySem.W.Frag) : Sp := fun vs H Q _ => ∃ f v s0 b, vs = [v] ∧ Rp K H f v ∧ Wf s0 b f ∧ ∀ H', Ext [] H H' → Q (.bl true) H'
theorem sc_is_well_made : FnScope ["formula", "word"] ["formula"] (defScope s_is_well_made) := ⟨rfl, rfl, rfl, by decide +kernel, rfl, by decide +kernel, by decide +kernel⟩
theorem hs_is_well_made (T : Tx w K mg) (D : Dn K mg "is_well_made" s_is_well_made f) (h_is_name : Hs P w K mg base CX0 1 "is_name" ["text"] spIsName) (h_is_below : Hs P w K mg base CX0 2 "is_below" ["value", "bound"] spBelow)
    (h_are_names : Hs P w K mg base CX0 2 "are_names" ["value", "least", "most"] (spAreNames K)) (h_are_variables : Hs P w K mg base CX0 3 "are_variables" ["value", "least", "most"] (spAreVars K)) : Hs P w K mg base CX0 4 "is_well_made" ["formula"] (spWm K) := by
  refine Hs.of D sc_is_well_made (fun vs H Q E h => ?_) (fun _ _ _ _ _ _ us hl => match us, hl with | [_], _ => rfl) (fun cdv A outer s H vs Q E hr h => ?_)
  · obtain ⟨f, v, s0, b, rfl, _⟩ := h
    rfl
  obtain ⟨f, v, s0, b, rfl, hf, wf, q⟩ := h
  refine ⟨_, PSs.nox (pss_cons (ps_if (PW.pt (pw_or (pt_not (pt_val (pe_callB call_isi (by rfl) T.isi (by decide +kernel) (pa_cons (pv 0) (pa_cons (pe_bltn (v := .ty "tuple") rfl T.ztuple (by decide +kernel) rfl) pa_nil))))) (pw_or (pt_not (pt_truth (pv 0) (by intro _; rfl))) (pw_or1 (pt_not (pt_val (pe_callB call_isi (by rfl) T.isi (by decide +kernel) (pa_cons (pe_ix ix_tup (pv 0) pe_int (fun _ _ => rfl)) (pa_cons (pe_bltn (v := .ty "str") rfl T.zstr (by decide +kernel) rfl) pa_nil))))))))) (pss_one (ps_ret pe_bl)) pss_nil)
      (pss_cons (ps_set (i := 1) sc_is_well_made.nd rfl (by first | exact Or.inl rfl | exact Or.inr rfl) (pe_ix ix_tup (pv 0) pe_int (fun _ _ => rfl)))
      (pss_cons (ps_if (pt_cmpR op_ne (pe_kget T.lens.2 (pe_glob (v := .ref (He.ga K "LENGTHS")) rfl T.lens.1 rfl) (pv 1) ⟨rfl, rfl, rfl, rfl⟩) (pe_callB call_len_seq (by rfl) T.zlen PySem.boot_len (pa_cons (pv 0) pa_nil)) (nomark _)) (pss_one (ps_ret pe_bl)) pss_nil)
      (pss_cons (ps_if (pt_cmpR op_eq (pv 1) pe_str (nomark _)) (pss_one (ps_ret (pe_and (pe_h h_is_name (hr.mono (by omega)) rfl pass0 (pa_cons (pe_ix ix_tup (pv 0) pe_int (fun _ _ => rfl)) pa_nil)) (pe_one (pe_h h_are_names (hr.mono (by omega)) rfl pass0 (pa_cons (pe_ix ix_tup (pv 0) pe_int (fun _ _ => rfl)) (pa_cons pe_int (pa_cons (pe_glob (v := .int 6) rfl T.places.choose_spec ⟨_, rfl⟩) pa_nil)))))))) pss_nil)
      (pss_cons (ps_if (PW.pt (pw_or (pt_cmpR op_eq (pv 1) pe_str (nomark _)) (pw_or1 (pt_cmpR op_eq (pv 1) pe_str (nomark _))))) (pss_one (ps_ret (pe_and (pe_h h_is_name (hr.mono (by omega)) rfl pass0 (pa_cons (pe_ix ix_tup (pv 0) pe_int (fun _ _ => rfl)) pa_nil)) (pe_one (pe_h h_is_name (hr.mono (by omega)) rfl pass0 (pa_cons (pe_ix ix_tup (pv 0) pe_int (fun _ _ => rfl)) pa_nil)))))) pss_nil)
      (pss_cons (ps_if (PW.pt (pw_or (pt_cmpR op_eq (pv 1) pe_str (nomark _)) (pw_or1 (pt_cmpR op_eq (pv 1) pe_str (nomark _))))) (pss_one (ps_ret (pe_and (pe_callB call_isi (by rfl) T.isi (by decide +kernel) (pa_cons (pe_ix ix_tup (pv 0) pe_int (fun _ _ => rfl)) (pa_cons (pe_bltn (v := .ty "tuple") rfl T.ztuple (by decide +kernel) rfl) pa_nil))) (pe_one (pe_cmpR op_le (pe_callB call_len_seq (by rfl) T.zlen PySem.boot_len (pa_cons (pe_ix ix_tup (pv 0) pe_int (fun _ _ => rfl)) pa_nil)) (pe_glob (v := .int 40) rfl T.branches.choose_spec ⟨_, rfl⟩) (nomark _)))))) pss_nil)
      (pss_cons (ps_if (pt_cmpR op_in_seq (pv 1) (pe_glob (v := .ref (He.ga K "QUANTIFIERS")) rfl T.qus.1 rfl) rfl) (pss_one (ps_ret (pe_h h_are_variables (hr.mono (by omega)) rfl pass0 (pa_cons (pe_ix ix_tup (pv 0) pe_int (fun _ _ => rfl)) (pa_cons pe_int (pa_cons (pe_glob (v := .int 6) rfl T.places.choose_spec ⟨_, rfl⟩) pa_nil)))))) pss_nil)
      (pss_cons (ps_if (pt_cmpR op_in_seq (pv 1) (pe_glob (v := .ref (He.ga K "FIXED")) rfl T.fix.1 rfl) rfl) (pss_cons (ps_if (PW.pt (pw_or (pt_not (pt_val (pe_h h_is_name (hr.mono (by omega)) rfl pass0 (pa_cons (pe_ix ix_tup (pv 0) pe_int (fun _ _ => rfl)) pa_nil)))) (pw_or1 (pt_not (pt_val (pe_h h_are_variables (hr.mono (by omega)) rfl pass0 (pa_cons (pe_ix ix_tup (pv 0) pe_int (fun _ _ => rfl)) (pa_cons pe_int (pa_cons (pe_glob (v := .int 6) rfl T.places.choose_spec ⟨_, rfl⟩) pa_nil))))))))) (pss_one (ps_ret pe_bl)) pss_nil)
      (pss_one (ps_ret (pe_h h_are_names (hr.mono (by omega)) rfl pass0 (pa_cons (pe_ix ix_tup (pv 0) pe_int (fun _ _ => rfl)) (pa_cons (pe_callB call_len_seq (by rfl) T.zlen PySem.boot_len (pa_cons (pe_ix ix_tup (pv 0) pe_int (fun _ _ => rfl)) pa_nil)) (pa_cons (pe_callB call_len_seq (by rfl) T.zlen PySem.boot_len (pa_cons (pe_ix ix_tup (pv 0) pe_int (fun _ _ => rfl)) pa_nil)) pa_nil))))))) pss_nil)
      (pss_cons (ps_if (pt_cmpR op_eq (pv 1) pe_str (nomark _)) (pss_cons (ps_if (PW.pt (pw_or (pt_not (pt_val (pe_h h_are_variables (hr.mono (by omega)) rfl pass0 (pa_cons (pe_ix ix_tup (pv 0) pe_int (fun _ _ => rfl)) (pa_cons pe_int (pa_cons (pe_glob (v := .int 8) rfl T.steps.choose_spec ⟨_, rfl⟩) pa_nil)))))) (pw_or1 (pt_cmpR op_eq (pe_op op_mod (pe_callB call_len_seq (by rfl) T.zlen PySem.boot_len (pa_cons (pe_ix ix_tup (pv 0) pe_int (fun _ _ => rfl)) pa_nil)) pe_int) pe_int (nomark _))))) (pss_one (ps_ret pe_bl)) pss_nil)
      (pss_one (ps_ret (pe_h h_are_names (hr.mono (by omega)) rfl pass0 (pa_cons (pe_ix ix_tup (pv 0) pe_int (fun _ _ => rfl)) (pa_cons (pe_callB call_len_seq (by rfl) T.zlen PySem.boot_len (pa_cons (pe_ix ix_tup (pv 0) pe_int (fun _ _ => rfl)) pa_nil)) (pa_cons (pe_callB call_len_seq (by rfl) T.zlen PySem.boot_len (pa_cons (pe_ix ix_tup (pv 0) pe_int (fun _ _ => rfl)) pa_nil)) pa_nil))))))) pss_nil)
      (pss_cons (ps_if (pt_cmpR op_eq (pv 1) pe_str (nomark _)) (pss_one (ps_ret (pe_and (pe_h h_is_name (hr.mono (by omega)) rfl pass0 (pa_cons (pe_ix ix_tup (pv 0) pe_int (fun _ _ => rfl)) pa_nil)) (pe_one (pe_h h_is_below (hr.mono (by omega)) rfl pass0 (pa_cons (pe_ix ix_tup (pv 0) pe_int (fun _ _ => rfl)) (pa_cons (pe_op op_add (pe_glob (v := .int 3) rfl T.guessed.choose_spec ⟨_, rfl⟩) pe_int) pa_nil))))))) pss_nil)
      (pss_one (ps_ret pe_bl)))))))))))), ?_⟩
  cases f with
  | rel nm args =>
    obtain ⟨a, b, rfl, h1, h2⟩ := hf
    obtain ⟨w1, w2, w3, w4⟩ := wf
    refine ⟨_, rfl, _, _, _, _, _, rfl, .ty _, tyx h1, kTT, _, rfl, ?_⟩
    refine ifF rfl ?_
    refine ⟨_, rfl, true, .inr (.inl ⟨_, h1, rfl⟩), ?_⟩
    refine ifF rfl ?_
    refine ⟨_, rfl, _, _, _, _, rfl, rfl, h1, at_zero, _, _, _, _, _, rfl, .ty _, .base (.str _), kSS, _, rfl, ?_⟩
    refine ifF rfl ?_
    refine ⟨_, rfl, _, _, _, _, rfl, rfl, h1, at_zero, ?_⟩
    refine ⟨rfl, _, rfl, _, _, rfl, T.lensV ("rel", 3) (by decide +kernel), _, rfl, _, _, rfl, .inr h1, rfl, _, rfl, ?_⟩
    repeat' walk_at "w"
    refine ⟨_, rfl, _, _, _, _, rfl, rfl, h1, rfl, _, rfl, w1, _, rfl, ifT rfl ?_⟩
    refine ⟨_, rfl, _, _, _, _, rfl, rfl, h1, rfl, _, _, _, _, rfl, h2, w2, Int.natCast_nonneg _, by omega, q _ .refl⟩
  | cmp c x y =>
    obtain ⟨a, rfl, h1⟩ := hf
    cases c
    · refine ⟨_, rfl, _, _, _, _, _, rfl, .ty _, tyx h1, kTT, _, rfl, ?_⟩
      refine ifF rfl ?_
      refine ⟨_, rfl, true, .inr (.inl ⟨_, h1, rfl⟩), ?_⟩
      refine ifF rfl ?_
      refine ⟨_, rfl, _, _, _, _, rfl, rfl, h1, at_zero, _, _, _, _, _, rfl, .ty _, .base (.str _), kSS, _, rfl, ?_⟩
      refine ifF rfl ?_
      refine ⟨_, rfl, _, _, _, _, rfl, rfl, h1, at_zero, ?_⟩
      refine ⟨rfl, _, rfl, _, _, rfl, T.lensV ("eq", 3) (by decide +kernel), _, rfl, _, _, rfl, .inr h1, rfl, _, rfl, ?_⟩
      repeat' walk_at "w"
      refine ⟨_, rfl, _, _, _, _, rfl, rfl, h1, rfl, _, rfl, wf.1, _, rfl, ifT rfl ?_⟩
      exact ⟨_, rfl, _, _, _, _, rfl, rfl, h1, rfl, _, rfl, wf.2, q _ .refl⟩
    · refine ⟨_, rfl, _, _, _, _, _, rfl, .ty _, tyx h1, kTT, _, rfl, ?_⟩
      refine ifF rfl ?_
      refine ⟨_, rfl, true, .inr (.inl ⟨_, h1, rfl⟩), ?_⟩
      refine ifF rfl ?_
      refine ⟨_, rfl, _, _, _, _, rfl, rfl, h1, at_zero, _, _, _, _, _, rfl, .ty _, .base (.str _), kSS, _, rfl, ?_⟩
      refine ifF rfl ?_
      refine ⟨_, rfl, _, _, _, _, rfl, rfl, h1, at_zero, ?_⟩
      refine ⟨rfl, _, rfl, _, _, rfl, T.lensV ("less", 3) (by decide +kernel), _, rfl, _, _, rfl, .inr h1, rfl, _, rfl, ?_⟩
      repeat' walk_at "w"
      refine ⟨_, rfl, _, _, _, _, rfl, rfl, h1, rfl, _, rfl, wf.1, _, rfl, ifT rfl ?_⟩
      exact ⟨_, rfl, _, _, _, _, rfl, rfl, h1, rfl, _, rfl, wf.2, q _ .refl⟩
  | neg g =>
    obtain ⟨a, u, rfl, h1, h2⟩ := hf
    refine ⟨_, rfl, _, _, _, _, _, rfl, .ty _, tyx h1, kTT, _, rfl, ?_⟩
    refine ifF rfl ?_
    refine ⟨_, rfl, true, .inr (.inl ⟨_, h1, rfl⟩), ?_⟩
    refine ifF rfl ?_
    refine ⟨_, rfl, _, _, _, _, rfl, rfl, h1, at_zero, _, _, _, _, _, rfl, .ty _, .base (.str _), kSS, _, rfl, ?_⟩
    refine ifF rfl ?_
    refine ⟨_, rfl, _, _, _, _, rfl, rfl, h1, at_zero, ?_⟩
    refine ⟨rfl, _, rfl, _, _, rfl, T.lensV ("not", 2) (by decide +kernel), _, rfl, _, _, rfl, .inr h1, rfl, _, rfl, ?_⟩
    repeat' walk_at "w"
    exact q _ .refl
  | jn c fs =>
    obtain ⟨a, b, us, rfl, h1, h2, h3⟩ := hf
    have hl := Rps.length h3
    have hw := wf.1
    cases c
    · refine ⟨_, rfl, _, _, _, _, _, rfl, .ty _, tyx h1, kTT, _, rfl, ?_⟩
      refine ifF rfl ?_
      refine ⟨_, rfl, true, .inr (.inl ⟨_, h1, rfl⟩), ?_⟩
      refine ifF rfl ?_
      refine ⟨_, rfl, _, _, _, _, rfl, rfl, h1, at_zero, _, _, _, _, _, rfl, .ty _, .base (.str _), kSS, _, rfl, ?_⟩
      refine ifF rfl ?_
      refine ⟨_, rfl, _, _, _, _, rfl, rfl, h1, at_zero, ?_⟩
      refine ⟨rfl, _, rfl, _, _, rfl, T.lensV ("or", 2) (by decide +kernel), _, rfl, _, _, rfl, .inr h1, rfl, _, rfl, ?_⟩
      repeat' walk_at "w"
      refine ⟨_, rfl, _, _, _, _, rfl, rfl, h1, rfl, _, _, _, _, _, rfl, .ty _, tyx h2, kTT, _, rfl, ifT rfl ?_⟩
      refine ⟨_, rfl, _, _, _, _, rfl, rfl, h1, rfl, _, _, rfl, .inr h2, _, _, rfl, rfl, ?_⟩
      show Q (.bl (decide ((us.length : Int) ≤ 40))) H
      rw [decide_eq_true (by omega)]
      exact q _ .refl
    · refine ⟨_, rfl, _, _, _, _, _, rfl, .ty _, tyx h1, kTT, _, rfl, ?_⟩
      refine ifF rfl ?_
      refine ⟨_, rfl, true, .inr (.inl ⟨_, h1, rfl⟩), ?_⟩
      refine ifF rfl ?_
      refine ⟨_, rfl, _, _, _, _, rfl, rfl, h1, at_zero, _, _, _, _, _, rfl, .ty _, .base (.str _), kSS, _, rfl, ?_⟩
      refine ifF rfl ?_
      refine ⟨_, rfl, _, _, _, _, rfl, rfl, h1, at_zero, ?_⟩
      refine ⟨rfl, _, rfl, _, _, rfl, T.lensV ("and", 2) (by decide +kernel), _, rfl, _, _, rfl, .inr h1, rfl, _, rfl, ?_⟩
      repeat' walk_at "w"
      refine ⟨_, rfl, _, _, _, _, rfl, rfl, h1, rfl, _, _, _, _, _, rfl, .ty _, tyx h2, kTT, _, rfl, ifT rfl ?_⟩
      refine ⟨_, rfl, _, _, _, _, rfl, rfl, h1, rfl, _, _, rfl, .inr h2, _, _, rfl, rfl, ?_⟩
      show Q (.bl (decide ((us.length : Int) ≤ 40))) H
      rw [decide_eq_true (by omega)]
      exact q _ .refl
  | qu c vs g =>
    obtain ⟨a, b, u, rfl, h1, h2, h3⟩ := hf
    obtain ⟨⟨w1, w2, w3, w4⟩, w5⟩ := wf
    cases c
    · refine ⟨_, rfl, _, _, _, _, _, rfl, .ty _, tyx h1, kTT, _, rfl, ?_⟩
      refine ifF rfl ?_
      refine ⟨_, rfl, true, .inr (.inl ⟨_, h1, rfl⟩), ?_⟩
      refine ifF rfl ?_
      refine ⟨_, rfl, _, _, _, _, rfl, rfl, h1, at_zero, _, _, _, _, _, rfl, .ty _, .base (.str _), kSS, _, rfl, ?_⟩
      refine ifF rfl ?_
      refine ⟨_, rfl, _, _, _, _, rfl, rfl, h1, at_zero, ?_⟩
      refine ⟨rfl, _, rfl, _, _, rfl, T.lensV ("some", 3) (by decide +kernel), _, rfl, _, _, rfl, .inr h1, rfl, _, rfl, ?_⟩
      repeat' walk_at "w"
      exact ⟨_, rfl, _, _, _, _, rfl, rfl, h1, rfl, _, _, _, _, rfl, h2, w4, w1, by omega, by omega, by omega, q⟩
    · refine ⟨_, rfl, _, _, _, _, _, rfl, .ty _, tyx h1, kTT, _, rfl, ?_⟩
      refine ifF rfl ?_
      refine ⟨_, rfl, true, .inr (.inl ⟨_, h1, rfl⟩), ?_⟩
      refine ifF rfl ?_
      refine ⟨_, rfl, _, _, _, _, rfl, rfl, h1, at_zero, _, _, _, _, _, rfl, .ty _, .base (.str _), kSS, _, rfl, ?_⟩
      refine ifF rfl ?_
      refine ⟨_, rfl, _, _, _, _, rfl, rfl, h1, at_zero, ?_⟩
      refine ⟨rfl, _, rfl, _, _, rfl, T.lensV ("all", 3) (by decide +kernel), _, rfl, _, _, rfl, .inr h1, rfl, _, rfl, ?_⟩
      repeat' walk_at "w"
      exact ⟨_, rfl, _, _, _, _, rfl, rfl, h1, rfl, _, _, _, _, rfl, h2, w4, w1, by omega, by omega, by omega, q⟩
  | fx l nm vs g args =>
    obtain ⟨a, b, c, u, rfl, h1, h2, h3, h4⟩ := hf
    obtain ⟨w0, ⟨w1, w2, w3, w4⟩, ⟨w5, w6⟩, w7, w8⟩ := wf
    have hlen : (sv vs).length = vs.length := List.length_map _
    cases l
    · refine ⟨_, rfl, _, _, _, _, _, rfl, .ty _, tyx h1, kTT, _, rfl, ?_⟩
      refine ifF rfl ?_
      refine ⟨_, rfl, true, .inr (.inl ⟨_, h1, rfl⟩), ?_⟩
      refine ifF rfl ?_
      refine ⟨_, rfl, _, _, _, _, rfl, rfl, h1, at_zero, _, _, _, _, _, rfl, .ty _, .base (.str _), kSS, _, rfl, ?_⟩
      refine ifF rfl ?_
      refine ⟨_, rfl, _, _, _, _, rfl, rfl, h1, at_zero, ?_⟩
      refine ⟨rfl, _, rfl, _, _, rfl, T.lensV ("pfp", 5) (by decide +kernel), _, rfl, _, _, rfl, .inr h1, rfl, _, rfl, ?_⟩
      repeat' walk_at "w"
      refine ⟨_, rfl, _, _, _, _, rfl, rfl, h1, rfl, _, rfl, w0, _, rfl, ifF rfl ?_⟩
      refine ⟨_, rfl, _, _, _, _, rfl, rfl, h1, rfl, _, _, _, _, rfl, h2, w4, w1, by omega, by omega, by omega, fun H1 e1 => ⟨_, rfl, ifF rfl ?_⟩⟩
      have h1 := e1.tup h1
      refine ⟨_, rfl, _, _, _, _, rfl, rfl, h1, rfl, _, rfl, _, _, _, _, rfl, rfl, h1, rfl, _, _, rfl, .inr (e1.tup h2), _, rfl, _, _, _, _, rfl, rfl, h1, rfl, _, _, rfl, .inr (e1.tup h2), ?_⟩
      exact ⟨_, _, _, _, rfl, e1.tup h3, w6, by omega, by omega, q _ e1⟩
    · refine ⟨_, rfl, _, _, _, _, _, rfl, .ty _, tyx h1, kTT, _, rfl, ?_⟩
      refine ifF rfl ?_
      refine ⟨_, rfl, true, .inr (.inl ⟨_, h1, rfl⟩), ?_⟩
      refine ifF rfl ?_
      refine ⟨_, rfl, _, _, _, _, rfl, rfl, h1, at_zero, _, _, _, _, _, rfl, .ty _, .base (.str _), kSS, _, rfl, ?_⟩
      refine ifF rfl ?_
      refine ⟨_, rfl, _, _, _, _, rfl, rfl, h1, at_zero, ?_⟩
      refine ⟨rfl, _, rfl, _, _, rfl, T.lensV ("lfp", 5) (by decide +kernel), _, rfl, _, _, rfl, .inr h1, rfl, _, rfl, ?_⟩
      repeat' walk_at "w"
      refine ⟨_, rfl, _, _, _, _, rfl, rfl, h1, rfl, _, rfl, w0, _, rfl, ifF rfl ?_⟩
      refine ⟨_, rfl, _, _, _, _, rfl, rfl, h1, rfl, _, _, _, _, rfl, h2, w4, w1, by omega, by omega, by omega, fun H1 e1 => ⟨_, rfl, ifF rfl ?_⟩⟩
      have h1 := e1.tup h1
      refine ⟨_, rfl, _, _, _, _, rfl, rfl, h1, rfl, _, rfl, _, _, _, _, rfl, rfl, h1, rfl, _, _, rfl, .inr (e1.tup h2), _, rfl, _, _, _, _, rfl, rfl, h1, rfl, _, _, rfl, .inr (e1.tup h2), ?_⟩
      exact ⟨_, _, _, _, rfl, e1.tup h3, w6, by omega, by omega, q _ e1⟩
  | tc vs g args =>
    obtain ⟨a, b, c, u, rfl, h1, h2, h3, h4⟩ := hf
    obtain ⟨⟨w1, w2, w3, w3', w4⟩, ⟨w5, w6⟩, w7⟩ := wf
    have hlen : (sv vs).length = vs.length := List.length_map _
    refine ⟨_, rfl, _, _, _, _, _, rfl, .ty _, tyx h1, kTT, _, rfl, ?_⟩
    refine ifF rfl ?_
    refine ⟨_, rfl, true, .inr (.inl ⟨_, h1, rfl⟩), ?_⟩
    refine ifF rfl ?_
    refine ⟨_, rfl, _, _, _, _, rfl, rfl, h1, at_zero, _, _, _, _, _, rfl, .ty _, .base (.str _), kSS, _, rfl, ?_⟩
    refine ifF rfl ?_
    refine ⟨_, rfl, _, _, _, _, rfl, rfl, h1, at_zero, ?_⟩
    refine ⟨rfl, _, rfl, _, _, rfl, T.lensV ("tc", 4) (by decide +kernel), _, rfl, _, _, rfl, .inr h1, rfl, _, rfl, ?_⟩
    repeat' walk_at "w"
    refine ⟨_, rfl, _, _, _, _, rfl, rfl, h1, rfl, _, _, _, _, rfl, h2, w4, w1, by omega, by omega, by omega, fun H1 e1 => ⟨_, rfl, ifF rfl ?_⟩⟩
    have h1 := e1.tup h1
    refine ⟨_, rfl, _, _, _, _, rfl, rfl, h1, rfl, _, _, rfl, .inr (e1.tup h2), _, _, rfl, rfl, (by show (0 : Int) < 2; decide), rfl, _, rfl, ?_⟩
    refine ifF (decide_eq_false fun e => by have e : ((sv vs).length : Int) % 2 = 1 := V.int.inj e; omega) ?_
    refine ⟨_, rfl, _, _, _, _, rfl, rfl, h1, rfl, _, rfl, _, _, _, _, rfl, rfl, h1, rfl, _, _, rfl, .inr (e1.tup h2), _, rfl, _, _, _, _, rfl, rfl, h1, rfl, _, _, rfl, .inr (e1.tup h2), ?_⟩
    exact ⟨_, _, _, _, rfl, e1.tup h3, w6, by omega, by omega, q _ e1⟩
  | gs nm ar g =>
    obtain ⟨a, u, rfl, h1, h2⟩ := hf
    obtain ⟨w1, w2, w3⟩ := wf
    refine ⟨_, rfl, _, _, _, _, _, rfl, .ty _, tyx h1, kTT, _, rfl, ?_⟩
    refine ifF rfl ?_
    refine ⟨_, rfl, true, .inr (.inl ⟨_, h1, rfl⟩), ?_⟩
    refine ifF rfl ?_
    refine ⟨_, rfl, _, _, _, _, rfl, rfl, h1, at_zero, _, _, _, _, _, rfl, .ty _, .base (.str _), kSS, _, rfl, ?_⟩
    refine ifF rfl ?_
    refine ⟨_, rfl, _, _, _, _, rfl, rfl, h1, at_zero, ?_⟩
    refine ⟨rfl, _, rfl, _, _, rfl, T.lensV ("guess", 4) (by decide +kernel), _, rfl, _, _, rfl, .inr h1, rfl, _, rfl, ?_⟩
    repeat' walk_at "w"
    refine ⟨_, rfl, _, _, _, _, rfl, rfl, h1, rfl, _, rfl, w1, _, rfl, ifT rfl ?_⟩
    exact ⟨_, rfl, _, _, _, _, rfl, rfl, h1, rfl, _, _, rfl, rfl, _, _, rfl, Int.natCast_nonneg _, by omega, q _ .refl⟩
end
end Say
set_option maxRecDepth 100000
set_option maxHeartbeats 4000000
/-! signs, what is looked at -/
namespace Say
open PySem PySem.Spec PyProof.Rows L2 Fm
section
variable {P : Program} {w : World} {K : PySem.W.Frag} {mg : Str → Option Value} {base : Heap} {f : Addr} {B : Nat}
theorem wd_rel {f : Fm} (h : ∀ nm args, f ≠ rel nm args) : decide (V.str (wd f) = V.str "rel") = false := by
  refine decide_eq_false fun e => ?_
  cases f with
  | rel nm args => exact absurd rfl (h nm args)
  | cmp c x y =>
    cases c with
    | false => exact absurd (V.str.inj e : ("eq" : Str) = "rel") (by decide +kernel)
    | true => exact absurd (V.str.inj e : ("less" : Str) = "rel") (by decide +kernel)
  | neg g => exact absurd (V.str.inj e : ("not" : Str) = "rel") (by decide +kernel)
  | jn c fs =>
    cases c with
    | false => exact absurd (V.str.inj e : ("or" : Str) = "rel") (by decide +kernel)
    | true => exact absurd (V.str.inj e : ("and" : Str) = "rel") (by decide +kernel)
  | qu c vs g =>
    cases c with
    | false => exact absurd (V.str.inj e : ("some" : Str) = "rel") (by decide +kernel)
    | true => exact absurd (V.str.inj e : ("all" : Str) = "rel") (by decide +kernel)
  | fx l nm vs g args =>
    cases l with
    | false => exact absurd (V.str.inj e : ("pfp" : Str) = "rel") (by decide +kernel)
    | true => exact absurd (V.str.inj e : ("lfp" : Str) = "rel") (by decide +kernel)
  | tc vs g args => exact absurd (V.str.inj e : ("tc" : Str) = "rel") (by decide +kernel)
  | gs nm ar g => exact absurd (V.str.inj e : ("guess" : Str) = "rel") (by decide +kernel)
theorem wd_neg {f : Fm} (h : ∀ g, f ≠ neg g) : decide (V.str (wd f) = V.str "not") = false := by
  refine decide_eq_false fun e => ?_
  cases f with
  | rel nm args => exact absurd (V.str.inj e : ("rel" : Str) = "not") (by decide +kernel)
  | cmp c x y =>
    cases c with
    | false => exact absurd (V.str.inj e : ("eq" : Str) = "not") (by decide +kernel)
    | true => exact absurd (V.str.inj e : ("less" : Str) = "not") (by decide +kernel)
  | neg g => exact absurd rfl (h g)
  | jn c fs =>
    cases c with
    | false => exact absurd (V.str.inj e : ("or" : Str) = "not") (by decide +kernel)
    | true => exact absurd (V.str.inj e : ("and" : Str) = "not") (by decide +kernel)
  | qu c vs g =>
    cases c with
    | false => exact absurd (V.str.inj e : ("some" : Str) = "not") (by decide +kernel)
    | true => exact absurd (V.str.inj e : ("all" : Str) = "not") (by decide +kernel)
  | fx l nm vs g args =>
    cases l with
    | false => exact absurd (V.str.inj e : ("pfp" : Str) = "not") (by decide +kernel)
    | true => exact absurd (V.str.inj e : ("lfp" : Str) = "not") (by decide +kernel)
  | tc vs g args => exact absurd (V.str.inj e : ("tc" : Str) = "not") (by decide +kernel)
  | gs nm ar g => exact absurd (V.str.inj e : ("guess" : Str) = "not") (by decide +kernel)
theorem wd_lfp {f : Fm} (h : ∀ nm vs g args, f ≠ fx true nm vs g args) : decide (V.str (wd f) = V.str "lfp") = false := by
  refine decide_eq_false fun e => ?_
  cases f with
  | rel nm args => exact absurd (V.str.inj e : ("rel" : Str) = "lfp") (by decide +kernel)
  | cmp c x y =>
    cases c with
    | false => exact absurd (V.str.inj e : ("eq" : Str) = "lfp") (by decide +kernel)
    | true => exact absurd (V.str.inj e : ("less" : Str) = "lfp") (by decide +kernel)
  | neg g => exact absurd (V.str.inj e : ("not" : Str) = "lfp") (by decide +kernel)
  | jn c fs =>
    cases c with
    | false => exact absurd (V.str.inj e : ("or" : Str) = "lfp") (by decide +kernel)
    | true => exact absurd (V.str.inj e : ("and" : Str) = "lfp") (by decide +kernel)
  | qu c vs g =>
    cases c with
    | false => exact absurd (V.str.inj e : ("some" : Str) = "lfp") (by decide +kernel)
    | true => exact absurd (V.str.inj e : ("all" : Str) = "lfp") (by decide +kernel)
  | fx l nm vs g args =>
    cases l with
    | false => exact absurd (V.str.inj e : ("pfp" : Str) = "lfp") (by decide +kernel)
    | true => exact absurd rfl (h nm vs g args)
  | tc vs g args => exact absurd (V.str.inj e : ("tc" : Str) = "lfp") (by decide +kernel)
  | gs nm ar g => exact absurd (V.str.inj e : ("guess" : Str) = "lfp") (by decide +kernel)
theorem wd_pfp {f : Fm} (h : ∀ nm vs g args, f ≠ fx false nm vs g args) : decide (V.str (wd f) = V.str "pfp") = false := by
  refine decide_eq_false fun e => ?_
  cases f with
  | rel nm args => exact absurd (V.str.inj e : ("rel" : Str) = "pfp") (by decide +kernel)
  | cmp c x y =>
    cases c with
    | false => exact absurd (V.str.inj e : ("eq" : Str) = "pfp") (by decide +kernel)
    | true => exact absurd (V.str.inj e : ("less" : Str) = "pfp") (by decide +kernel)
  | neg g => exact absurd (V.str.inj e : ("not" : Str) = "pfp") (by decide +kernel)
  | jn c fs =>
    cases c with
    | false => exact absurd (V.str.inj e : ("or" : Str) = "pfp") (by decide +kernel)
    | true => exact absurd (V.str.inj e : ("and" : Str) = "pfp") (by decide +kernel)
  | qu c vs g =>
    cases c with
    | false => exact absurd (V.str.inj e : ("some" : Str) = "pfp") (by decide +kernel)
    | true => exact absurd (V.str.inj e : ("all" : Str) = "pfp") (by decide +kernel)
  | fx l nm vs g args =>
    cases l with
    | false => exact absurd rfl (h nm vs g args)
    | true => exact absurd (V.str.inj e : ("lfp" : Str) = "pfp") (by decide +kernel)
  | tc vs g args => exact absurd (V.str.inj e : ("tc" : Str) = "pfp") (by decide +kernel)
  | gs nm ar g => exact absurd (V.str.inj e : ("guess" : Str) = "pfp") (by decide +kernel)
/-- the name that it binds is nm -/
def bnd (f : Fm) (nm : Str) : Bool := match ownN f with
  | some p => decide (p.1 = nm)
  | none => false
theorem oc_step {nm : Str} {f : Fm} (h : ∀ nm args, f ≠ rel nm args) : Oc nm f = (!bnd f nm && (kids f).any (Oc nm)) := by
  cases f with
  | rel nm args => exact absurd rfl (h nm args)
  | cmp c x y => rfl
  | neg g => show Oc nm g = (Oc nm g || false); rw [Bool.or_false]
  | jn c fs => show Ocs nm fs = _; rw [ocs_any]; rfl
  | qu c vs g => show Oc nm g = (Oc nm g || false); rw [Bool.or_false]
  | fx l m vs g args => show (!decide (m = nm) && Oc nm g) = (!decide (m = nm) && (Oc nm g || false)); rw [Bool.or_false]
  | tc vs g args => show Oc nm g = (Oc nm g || false); rw [Bool.or_false]
  | gs m ar g => show (!decide (m = nm) && Oc nm g) = (!decide (m = nm) && (Oc nm g || false)); rw [Bool.or_false]
def spOcc (K : PySem.W.Frag) (n : Nat) : L2.Sp := fun vs H Q _ => ∃ f v nm, vs = [v, .str nm] ∧ Rp K H f v ∧ dp f ≤ n ∧ ∀ H', Ext [] H H' → Q (.bl (Oc nm f)) H'
theorem sc_occurs : FnScope ["formula", "name", "own", "part"] ["formula", "name"] (defScope s_occurs) := ⟨rfl, rfl, rfl, by decide +kernel, rfl, by decide +kernel, by decide +kernel⟩
theorem hs_occurs (T : Tx w K mg) (D : Dn K mg "occurs" s_occurs f) (h_own_name : Hs P w K mg base CX0 1 "own_name" ["formula"] (spOwnN K)) (h_inner : Hs P w K mg base CX0 1 "inner" ["formula"] (spInner K)) :
    ∀ n, Hs P w K mg base CX0 (1 + n + 1) "occurs" ["formula", "name"] (spOcc K n) := by
  intro n
  induction n with
  | zero =>
    refine Hs.of D sc_occurs (fun vs H Q E h => ?_) (fun _ _ _ _ _ _ us hl => match us, hl with | [_, _], _ => rfl) (fun cdv A outer s H vs Q E hr h => ?_)
    · obtain ⟨f, v, nm, rfl, _⟩ := h
      rfl
    obtain ⟨f, v, nm, rfl, _, h, _⟩ := h
    exact absurd (dp_pos f) (by omega)
  | succ n ih =>
    have h_occurs := ih
    refine Hs.of D sc_occurs (fun vs H Q E h => ?_) (fun _ _ _ _ _ _ us hl => match us, hl with | [_, _], _ => rfl) (fun cdv A outer s H vs Q E hr h => ?_)
    · obtain ⟨f, v, nm, rfl, _⟩ := h
      rfl
    obtain ⟨f, v, nm, rfl, hf, hn, q⟩ := h
    refine ⟨_, PSs.nox (pss_cons (ps_if (pt_cmpR op_eq (pe_ix ix_tup (pv 0) pe_int (fun _ _ => rfl)) pe_str (nomark _)) (pss_one (ps_ret (pe_cmpR op_eq (pe_ix ix_tup (pv 0) pe_int (fun _ _ => rfl)) (pv 1) (nomark _)))) pss_nil)
      (pss_cons (ps_set (i := 2) sc_occurs.nd rfl (by first | exact Or.inl rfl | exact Or.inr rfl) (pe_h h_own_name (hr.mono (by omega)) rfl pass0 (pa_cons (pv 0) pa_nil)))
      (pss_cons (ps_if (PW.pt (pw_and (pt_cmpR op_notN (pv 2) pe_non (nomark _)) (pw_and1 (pt_cmpR op_eq (pe_ix ix_tup (pv 2) pe_int (fun _ _ => rfl)) (pv 1) (nomark _))))) (pss_one (ps_ret pe_bl)) pss_nil)
      (pss_cons (ps_for PassesOwn.never rfl (pi_tup (pe_h h_inner (hr.mono (by omega)) rfl pass0 (pa_cons (pv 0) pa_nil))) (pg_name (i := 3) sc_occurs.nd rfl (by first | exact Or.inl rfl | exact Or.inr rfl)) (pss_one (ps_if (pt_val (pe_h h_occurs (hr.mono (by omega)) rfl pass0 (pa_cons (pv 3) (pa_cons (pv 1) pa_nil)))) (pss_one (ps_ret pe_bl)) pss_nil)))
      (pss_one (ps_ret pe_bl)))))), ?_⟩
    by_cases hrel : ∃ m args, f = rel m args
    · obtain ⟨m, args, rfl⟩ := hrel
      obtain ⟨a, b, rfl, h1, h2⟩ := hf
      refine ⟨_, rfl, _, _, _, _, rfl, rfl, h1, rfl, ?_⟩
      refine ⟨rfl, _, rfl, ifT (by decide +kernel) ?_⟩
      refine ⟨_, rfl, _, _, _, _, rfl, rfl, h1, rfl, ?_⟩
      refine ⟨_, rfl, rfl, ?_⟩
      show Q (.bl (decide (V.str m = V.str nm))) H
      rw [str_eq]
      exact q _ .refl
    · have hrel : ∀ m args, f ≠ rel m args := fun m args e => hrel ⟨m, args, e⟩
      have hf' := hf
      obtain ⟨a, xs, rfl, h1⟩ := Rp.at f hf
      refine ⟨_, rfl, _, _, _, _, rfl, rfl, h1, at_zero, ?_⟩
      refine ⟨rfl, _, rfl, ifF (wd_rel hrel) ?_⟩
      have oc := oc_step (nm := nm) hrel
      have loop : ∀ H1, Ext [] H H1 → bnd f nm = false → ∀ (p : Addr) (us : List V) (H2 : Hp), Ext [] H1 H2 → SqT K H2 p us → Rps K H2 (kids f) us → ∀ (g : Fm) (u : V) (d r : List Fm) (H3 : Hp), kids f = d ++ g :: r → Oc nm g = true → Ext [] H2 H3 → Q (.bl true) H3 := by
        intro H1 e1 hb p us H2 e2 hp hs g u d r H3 hk ho e3
        have z : Oc nm f = true := by
          rw [oc, hb, hk, List.any_append, List.any_cons, ho]
          simp
        have y := q H3 (e1.trans (e2.trans e3))
        rw [z] at y
        exact y
      have tail : ∀ H1, Ext [] H H1 → bnd f nm = false → ∀ H3, Ext [] H1 H3 → (∀ g ∈ kids f, Oc nm g = false) → Q (.bl false) H3 := by
        intro H1 e1 hb H3 e3 hk
        have z : Oc nm f = false := by
          rw [oc, List.any_eq_false.mpr fun g hg => by rw [hk g hg]; decide, Bool.and_false]
        have y := q H3 (e1.trans e3)
        rw [z] at y
        exact y
      refine ⟨_, rfl, _, _, rfl, hf', fun e => ?_, fun m k e p H1 e1 hp => ?_⟩
      · have hb : bnd f nm = false := by unfold bnd; rw [e]
        have e1 : Ext [] H H := .refl
        have hf1 := hf'
        refine ⟨_, rfl, rfl, _, rfl, ifF rfl ?_⟩
        refine ifF rfl ?_
        refine ⟨_, rfl, _, _, rfl, hf1, fun p2 us H2 e2 hp2 hs2 => ?_⟩
        refine ⟨_, rfl, ⟨_, hp2⟩, for_parts hp2 hs2 (S := []) (fun d σ H' => (∃ o, σ = [some (.ref a), some (.str nm), some .non, o]) ∧ Ext [] H2 H' ∧ ∀ g ∈ d, Oc nm g = false) ⟨⟨_, rfl⟩, .refl, by simp⟩ (fun d σ H' z => z.2.1)
          (fun d x r u σ H' hk hx ⟨⟨o, e⟩, e3, hd⟩ => ?_) (fun σ H' ⟨⟨o, e⟩, e3, hd⟩ => ?_)⟩
        · subst e
          refine ⟨_, rfl, _, rfl, _, _, _, rfl, hx, ?_, fun H4 e4 => ?_⟩
          · have := dp_kid (f := f) (g := x) (by rw [hk]; simp)
            omega
          · cases ho : Oc nm x with
            | true => exact ⟨_, rfl, ifT rfl (loop H e1 hb p2 us H2 e2 hp2 hs2 x u d r H4 hk ho (e3.trans e4))⟩
            | false => exact ⟨_, rfl, ifF rfl ⟨⟨_, rfl⟩, e3.trans e4, fun g hg => (List.mem_append.mp hg).elim (hd g) fun z => by rw [List.mem_singleton.mp z]; exact ho⟩⟩
        · subst e
          exact tail H e1 hb H' (e2.trans e3) hd
      · refine ⟨_, rfl, rfl, _, rfl, ifT rfl ?_⟩
        refine ⟨_, rfl, _, _, _, _, rfl, rfl, hp, rfl, _, rfl, rfl, _, rfl, ?_⟩
        cases hb : decide (m = nm) with
        | true =>
          refine ifT (by rw [str_eq]; exact hb) ?_
          have z : Oc nm f = false := by
            rw [oc]
            unfold bnd
            rw [e]
            show (!decide (m = nm) && _) = false
            rw [hb]
            rfl
          have y := q H1 e1
          rw [z] at y
          exact y
        | false =>
          refine ifF (by rw [str_eq]; exact hb) ?_
          have hb : bnd f nm = false := by unfold bnd; rw [e]; exact hb
          have hf1 := Rp.ext e1 f hf'
          refine ⟨_, rfl, _, _, rfl, hf1, fun p2 us H2 e2 hp2 hs2 => ?_⟩
          refine ⟨_, rfl, ⟨_, hp2⟩, for_parts hp2 hs2 (S := []) (fun d σ H' => (∃ o, σ = [some (.ref a), some (.str nm), some (.ref p), o]) ∧ Ext [] H2 H' ∧ ∀ g ∈ d, Oc nm g = false) ⟨⟨_, rfl⟩, .refl, by simp⟩ (fun d σ H' z => z.2.1)
            (fun d x r u σ H' hk hx ⟨⟨o, e⟩, e3, hd⟩ => ?_) (fun σ H' ⟨⟨o, e⟩, e3, hd⟩ => ?_)⟩
          · subst e
            refine ⟨_, rfl, _, rfl, _, _, _, rfl, hx, ?_, fun H4 e4 => ?_⟩
            · have := dp_kid (f := f) (g := x) (by rw [hk]; simp)
              omega
            · cases ho : Oc nm x with
              | true => exact ⟨_, rfl, ifT rfl (loop H1 e1 hb p2 us H2 e2 hp2 hs2 x u d r H4 hk ho (e3.trans e4))⟩
              | false => exact ⟨_, rfl, ifF rfl ⟨⟨_, rfl⟩, e3.trans e4, fun g hg => (List.mem_append.mp hg).elim (hd g) fun z => by rw [List.mem_singleton.mp z]; exact ho⟩⟩
          · subst e
            exact tail H1 e1 hb H' (e2.trans e3) hd
/-! ### positive in a name -/
def isN (f : Fm) : Bool := match f with
  | neg _ => true
  | _ => false
def pf (f : Fm) (nm : Str) : Bool := match f with
  | fx false _ _ g _ => !Oc nm g
  | _ => true
theorem pf_not {f : Fm} {nm : Str} (h : ∀ m vs g args, f ≠ fx false m vs g args) : pf f nm = true := by
  cases f with
  | fx l m vs g args =>
    cases l with
    | false => exact absurd rfl (h m vs g args)
    | true => rfl
  | _ => rfl
theorem wd_isN {f : Fm} : decide (V.str (wd f) = V.str "not") = isN f := by
  by_cases h : ∃ g, f = neg g
  · obtain ⟨g, rfl⟩ := h
    exact decide_eq_true rfl
  · rw [wd_neg fun g e => h ⟨g, e⟩]
    cases f with
    | neg g => exact absurd ⟨g, rfl⟩ h
    | _ => rfl
theorem ag_step {nm : Str} {e : Bool} {f : Fm} (h : ∀ nm args, f ≠ rel nm args) : Ag nm e f = (bnd f nm || (pf f nm && (kids f).all (Ag nm (if isN f then !e else e)))) := by
  cases f with
  | rel nm args => exact absurd rfl (h nm args)
  | cmp c x y => rfl
  | neg g => show Ag nm (!e) g = (Ag nm (!e) g && true); rw [Bool.and_true]
  | jn c fs => show Ags nm e fs = _; rw [ags_all]; rfl
  | qu c vs g => show Ag nm e g = (Ag nm e g && true); rw [Bool.and_true]
  | fx l m vs g args => cases l <;> show (decide (m = nm) || _) = (decide (m = nm) || (_ && (Ag nm e g && true))) <;> rw [Bool.and_true] <;> rfl
  | tc vs g args => show Ag nm e g = (Ag nm e g && true); rw [Bool.and_true]
  | gs m ar g => show (decide (m = nm) || Ag nm e g) = (decide (m = nm) || (true && (Ag nm e g && true))); rw [Bool.and_true]; rfl
def spAg (K : PySem.W.Frag) (n : Nat) : L2.Sp := fun vs H Q _ => ∃ f v nm ev, vs = [v, .str nm, .bl ev] ∧ Rp K H f v ∧ dp f ≤ n ∧ ∀ H', Ext [] H H' → Q (.bl (Ag nm ev f)) H'
theorem sc_agrees : FnScope ["formula", "name", "even", "own", "part"] ["formula", "name", "even"] (defScope s_agrees) := ⟨rfl, rfl, rfl, by decide +kernel, rfl, by decide +kernel, by decide +kernel⟩
theorem hs_agrees (T : Tx w K mg) (D : Dn K mg "agrees" s_agrees f) (h_own_name : Hs P w K mg base CX0 1 "own_name" ["formula"] (spOwnN K)) (h_inner : Hs P w K mg base CX0 1 "inner" ["formula"] (spInner K))
    (h_occurs0 : ∀ n, Hs P w K mg base CX0 (1 + n + 1) "occurs" ["formula", "name"] (spOcc K n)) :
    ∀ n, Hs P w K mg base CX0 (2 + n + 1) "agrees" ["formula", "name", "even"] (spAg K n) := by
  intro n
  induction n with
  | zero =>
    refine Hs.of D sc_agrees (fun vs H Q E h => ?_) (fun _ _ _ _ _ _ us hl => match us, hl with | [_, _, _], _ => rfl) (fun cdv A outer s H vs Q E hr h => ?_)
    · obtain ⟨f, v, nm, ev, rfl, _⟩ := h
      rfl
    obtain ⟨f, v, nm, ev, rfl, _, h, _⟩ := h
    exact absurd (dp_pos f) (by omega)
  | succ n ih =>
    have h_agrees := ih
    have h_occurs := h_occurs0 n
    refine Hs.of D sc_agrees (fun vs H Q E h => ?_) (fun _ _ _ _ _ _ us hl => match us, hl with | [_, _, _], _ => rfl) (fun cdv A outer s H vs Q E hr h => ?_)
    · obtain ⟨f, v, nm, ev, rfl, _⟩ := h
      rfl
    obtain ⟨f, v, nm, ev, rfl, hf, hn, q⟩ := h
    refine ⟨_, PSs.nox (pss_cons (ps_if (pt_cmpR op_eq (pe_ix ix_tup (pv 0) pe_int (fun _ _ => rfl)) pe_str (nomark _)) (pss_one (ps_ret (pe_or (pe_cmpR op_ne (pe_ix ix_tup (pv 0) pe_int (fun _ _ => rfl)) (pv 1) (nomark _)) (pe_one (pv 2))))) pss_nil)
      (pss_cons (ps_set (i := 3) sc_agrees.nd rfl (by first | exact Or.inl rfl | exact Or.inr rfl) (pe_h h_own_name (hr.mono (by omega)) rfl pass0 (pa_cons (pv 0) pa_nil)))
      (pss_cons (ps_if (PW.pt (pw_and (pt_cmpR op_notN (pv 3) pe_non (nomark _)) (pw_and1 (pt_cmpR op_eq (pe_ix ix_tup (pv 3) pe_int (fun _ _ => rfl)) (pv 1) (nomark _))))) (pss_one (ps_ret pe_bl)) pss_nil)
      (pss_cons (ps_if (PW.pt (pw_and (pt_cmpR op_eq (pe_ix ix_tup (pv 0) pe_int (fun _ _ => rfl)) pe_str (nomark _)) (pw_and1 (pt_val (pe_h h_occurs (hr.mono (by omega)) rfl pass0 (pa_cons (pe_ix ix_tup (pv 0) pe_int (fun _ _ => rfl)) (pa_cons (pv 1) pa_nil))))))) (pss_one (ps_ret pe_bl)) pss_nil)
      (pss_cons (ps_for PassesOwn.never rfl (pi_tup (pe_h h_inner (hr.mono (by omega)) rfl pass0 (pa_cons (pv 0) pa_nil))) (pg_name (i := 4) sc_agrees.nd rfl (by first | exact Or.inl rfl | exact Or.inr rfl)) (pss_one (ps_if (pt_not (pt_val (pe_h h_agrees (hr.mono (by omega)) rfl pass0 (pa_cons (pv 4) (pa_cons (pv 1) (pa_cons (pe_ifExp (pt_cmpR op_eq (pe_ix ix_tup (pv 0) pe_int (fun _ _ => rfl)) pe_str (nomark _)) (pe_not (pv 2)) (pv 2)) pa_nil)))))) (pss_one (ps_ret pe_bl)) pss_nil)))
      (pss_one (ps_ret pe_bl))))))), ?_⟩
    by_cases hrel : ∃ m args, f = rel m args
    · obtain ⟨m, args, rfl⟩ := hrel
      obtain ⟨a, b, rfl, h1, h2⟩ := hf
      refine ⟨_, rfl, _, _, _, _, rfl, rfl, h1, rfl, ?_⟩
      refine ⟨rfl, _, rfl, ifT (by decide +kernel) ?_⟩
      refine ⟨_, rfl, _, _, _, _, rfl, rfl, h1, rfl, ?_⟩
      refine ⟨_, rfl, rfl, _, rfl, ?_⟩
      have y := q _ .refl
      rw [show Ag nm ev (rel m args) = (!decide (m = nm) || ev) from rfl] at y
      rw [str_eq]
      cases hb : decide (m = nm) with
      | true =>
        rw [hb] at y
        exact ifF rfl ⟨_, rfl, y⟩
      | false =>
        rw [hb] at y
        exact ifT rfl y
    · have hrel : ∀ m args, f ≠ rel m args := fun m args e => hrel ⟨m, args, e⟩
      have hf' := hf
      obtain ⟨a, xs, rfl, h1⟩ := Rp.at f hf
      refine ⟨_, rfl, _, _, _, _, rfl, rfl, h1, at_zero, ?_⟩
      refine ⟨rfl, _, rfl, ifF (wd_rel hrel) ?_⟩
      have ag := ag_step (nm := nm) (e := ev) hrel
      have loop : ∀ H1, Ext [] H H1 → bnd f nm = false → pf f nm = true → ∀ H3, Ext [] H1 H3 → ∀ (g : Fm) (d r : List Fm), kids f = d ++ g :: r → Ag nm (if isN f then !ev else ev) g = false → Q (.bl false) H3 := by
        intro H1 e1 hb hpf H3 e3 g d r hk ho
        have z : Ag nm ev f = false := by
          rw [ag, hb, hpf, hk, List.all_append, List.all_cons, ho]
          simp
        have y := q H3 (e1.trans e3)
        rw [z] at y
        exact y
      have tail : ∀ H1, Ext [] H H1 → bnd f nm = false → pf f nm = true → ∀ H3, Ext [] H1 H3 → (∀ g ∈ kids f, Ag nm (if isN f then !ev else ev) g = true) → Q (.bl true) H3 := by
        intro H1 e1 hb hpf H3 e3 hk
        have z : Ag nm ev f = true := by
          rw [ag, hpf, List.all_eq_true.mpr hk]
          simp
        have y := q H3 (e1.trans e3)
        rw [z] at y
        exact y
      have h0 := h1
      refine ⟨_, rfl, _, _, rfl, hf', fun e => ?_, fun m k e p H1 e1 hp => ?_⟩
      · have hb : bnd f nm = false := by unfold bnd; rw [e]
        have e1 : Ext [] H H := .refl
        have hf1 := hf'
        clear h1
        refine ⟨_, rfl, rfl, _, rfl, ifF rfl ?_⟩
        refine ifF rfl ?_
        by_cases hx : ∃ m vs g args, f = fx false m vs g args
        · obtain ⟨m', vs, g, args, rfl⟩ := hx
          have hf2 := hf1
          obtain ⟨a', b', c', u', e', k1, k2, k3, k4⟩ := hf2
          cases e'
          refine ⟨_, rfl, _, _, _, _, rfl, rfl, k1, rfl, rfl, _, rfl, ifT (decide_eq_true rfl) ?_⟩
          refine ⟨_, rfl, _, _, _, _, rfl, rfl, k1, rfl, _, rfl, _, _, _, rfl, k4, by have := dp_kid (f := fx false m' vs g args) (g := g) (by simp [kids]); omega, fun H5 e5 => ?_⟩
          have e1 := e1.trans e5
          have h1 := e1.tup h0
          have hf1 := Rp.ext e5 _ hf1
          cases ho : Oc nm g with
          | true =>
            refine ⟨_, rfl, ifT rfl ?_⟩
            have y := q H5 e1
            rw [ag, hb, show pf (fx false m' vs g args) nm = !Oc nm g from rfl, ho] at y
            exact y
          | false =>
            have hpf : pf (fx false m' vs g args) nm = true := by rw [show pf (fx false m' vs g args) nm = !Oc nm g from rfl, ho]; rfl
            refine ⟨_, rfl, ifF rfl ?_⟩
            generalize fx false m' vs g args = f at *
            generalize H5 = H1 at *
            refine ⟨_, rfl, _, _, rfl, hf1, fun p2 us H2 e2 hp2 hs2 => ?_⟩
            refine ⟨_, rfl, ⟨_, hp2⟩, for_parts hp2 hs2 (S := []) (fun d σ H' => (∃ o, σ = [some (.ref a), some (.str nm), some (.bl ev), some (.non), o]) ∧ Ext [] H2 H' ∧ ∀ g ∈ d, Ag nm (if isN f then !ev else ev) g = true) ⟨⟨_, rfl⟩, .refl, by simp⟩ (fun d σ H' z => z.2.1)
              (fun d x r u σ H' hk hx ⟨⟨o, e⟩, e3, hd⟩ => ?_) (fun σ H' ⟨⟨o, e⟩, e3, hd⟩ => ?_)⟩
            · subst e
              have h1' := (e2.trans e3).tup h1
              have hdp : dp x ≤ n := by
                have := dp_kid (f := f) (g := x) (by rw [hk]; simp)
                omega
              have fin : ∀ H4, Ext [] H' H4 → (Ag nm (if isN f then !ev else ev) x = false → Q (.bl false) H4) := fun H4 e4 ho => loop H1 e1 hb hpf H4 (e2.trans (e3.trans e4)) x d r hk ho
              refine ⟨_, rfl, _, rfl, _, rfl, _, _, _, _, rfl, rfl, h1', at_zero, rfl, _, rfl, ?_⟩
              rw [wd_isN]
              cases hi : isN f with
              | true =>
                rw [hi] at fin hd
                refine ifT rfl ?_
                refine ⟨_, rfl, _, rfl, _, _, _, _, rfl, hx, hdp, fun H4 e4 => ?_⟩
                have fin := fin H4 e4
                simp only [if_true] at fin hd
                cases ho : Ag nm (!ev) x with
                | true => exact ⟨_, rfl, ifF rfl ⟨⟨_, rfl⟩, e3.trans e4, fun g hg => (List.mem_append.mp hg).elim (hd g) fun z => by rw [List.mem_singleton.mp z]; exact ho⟩⟩
                | false => exact ⟨_, rfl, ifT rfl (fin ho)⟩
              | false =>
                rw [hi] at fin hd
                refine ifF rfl ?_
                refine ⟨_, rfl, _, _, _, _, rfl, hx, hdp, fun H4 e4 => ?_⟩
                have fin := fin H4 e4
                simp only [Bool.false_eq_true, if_false] at fin hd
                cases ho : Ag nm ev x with
                | true => exact ⟨_, rfl, ifF rfl ⟨⟨_, rfl⟩, e3.trans e4, fun g hg => (List.mem_append.mp hg).elim (hd g) fun z => by rw [List.mem_singleton.mp z]; exact ho⟩⟩
                | false => exact ⟨_, rfl, ifT rfl (fin ho)⟩
            · subst e
              exact tail H1 e1 hb hpf H' (e2.trans e3) hd
        · have hx : ∀ m vs g args, f ≠ fx false m vs g args := fun m vs g args e => hx ⟨m, vs, g, args, e⟩
          have hpf : pf f nm = true := pf_not hx
          have h1 := e1.tup h0
          refine ⟨_, rfl, _, _, _, _, rfl, rfl, h1, at_zero, rfl, _, rfl, ifF (wd_pfp hx) ?_⟩
          refine ifF rfl ?_
          refine ⟨_, rfl, _, _, rfl, hf1, fun p2 us H2 e2 hp2 hs2 => ?_⟩
          refine ⟨_, rfl, ⟨_, hp2⟩, for_parts hp2 hs2 (S := []) (fun d σ H' => (∃ o, σ = [some (.ref a), some (.str nm), some (.bl ev), some (.non), o]) ∧ Ext [] H2 H' ∧ ∀ g ∈ d, Ag nm (if isN f then !ev else ev) g = true) ⟨⟨_, rfl⟩, .refl, by simp⟩ (fun d σ H' z => z.2.1)
            (fun d x r u σ H' hk hx ⟨⟨o, e⟩, e3, hd⟩ => ?_) (fun σ H' ⟨⟨o, e⟩, e3, hd⟩ => ?_)⟩
          · subst e
            have h1' := (e2.trans e3).tup h1
            have hdp : dp x ≤ n := by
              have := dp_kid (f := f) (g := x) (by rw [hk]; simp)
              omega
            have fin : ∀ H4, Ext [] H' H4 → (Ag nm (if isN f then !ev else ev) x = false → Q (.bl false) H4) := fun H4 e4 ho => loop H e1 hb hpf H4 (e2.trans (e3.trans e4)) x d r hk ho
            refine ⟨_, rfl, _, rfl, _, rfl, _, _, _, _, rfl, rfl, h1', at_zero, rfl, _, rfl, ?_⟩
            rw [wd_isN]
            cases hi : isN f with
            | true =>
              rw [hi] at fin hd
              refine ifT rfl ?_
              refine ⟨_, rfl, _, rfl, _, _, _, _, rfl, hx, hdp, fun H4 e4 => ?_⟩
              have fin := fin H4 e4
              simp only [if_true] at fin hd
              cases ho : Ag nm (!ev) x with
              | true => exact ⟨_, rfl, ifF rfl ⟨⟨_, rfl⟩, e3.trans e4, fun g hg => (List.mem_append.mp hg).elim (hd g) fun z => by rw [List.mem_singleton.mp z]; exact ho⟩⟩
              | false => exact ⟨_, rfl, ifT rfl (fin ho)⟩
            | false =>
              rw [hi] at fin hd
              refine ifF rfl ?_
              refine ⟨_, rfl, _, _, _, _, rfl, hx, hdp, fun H4 e4 => ?_⟩
              have fin := fin H4 e4
              simp only [Bool.false_eq_true, if_false] at fin hd
              cases ho : Ag nm ev x with
              | true => exact ⟨_, rfl, ifF rfl ⟨⟨_, rfl⟩, e3.trans e4, fun g hg => (List.mem_append.mp hg).elim (hd g) fun z => by rw [List.mem_singleton.mp z]; exact ho⟩⟩
              | false => exact ⟨_, rfl, ifT rfl (fin ho)⟩
          · subst e
            exact tail H e1 hb hpf H' (e2.trans e3) hd
      · refine ⟨_, rfl, rfl, _, rfl, ifT rfl ?_⟩
        refine ⟨_, rfl, _, _, _, _, rfl, rfl, hp, rfl, _, rfl, rfl, _, rfl, ?_⟩
        cases hb : decide (m = nm) with
        | true =>
          refine ifT (by rw [str_eq]; exact hb) ?_
          have z : Ag nm ev f = true := by
            rw [ag]
            unfold bnd
            rw [e]
            show (decide (m = nm) || _) = true
            rw [hb]
            rfl
          have y := q H1 e1
          rw [z] at y
          exact y
        | false =>
          refine ifF (by rw [str_eq]; exact hb) ?_
          have hb : bnd f nm = false := by unfold bnd; rw [e]; exact hb
          have hf1 := Rp.ext e1 f hf'
          clear h1
          by_cases hx : ∃ m vs g args, f = fx false m vs g args
          · obtain ⟨m', vs, g, args, rfl⟩ := hx
            have hf2 := hf1
            obtain ⟨a', b', c', u', e', k1, k2, k3, k4⟩ := hf2
            cases e'
            refine ⟨_, rfl, _, _, _, _, rfl, rfl, k1, rfl, rfl, _, rfl, ifT (decide_eq_true rfl) ?_⟩
            refine ⟨_, rfl, _, _, _, _, rfl, rfl, k1, rfl, _, rfl, _, _, _, rfl, k4, by have := dp_kid (f := fx false m' vs g args) (g := g) (by simp [kids]); omega, fun H5 e5 => ?_⟩
            have e1 := e1.trans e5
            have h1 := e1.tup h0
            have hf1 := Rp.ext e5 _ hf1
            cases ho : Oc nm g with
            | true =>
              refine ⟨_, rfl, ifT rfl ?_⟩
              have y := q H5 e1
              rw [ag, hb, show pf (fx false m' vs g args) nm = !Oc nm g from rfl, ho] at y
              exact y
            | false =>
              have hpf : pf (fx false m' vs g args) nm = true := by rw [show pf (fx false m' vs g args) nm = !Oc nm g from rfl, ho]; rfl
              refine ⟨_, rfl, ifF rfl ?_⟩
              generalize fx false m' vs g args = f at *
              generalize H5 = H1 at *
              refine ⟨_, rfl, _, _, rfl, hf1, fun p2 us H2 e2 hp2 hs2 => ?_⟩
              refine ⟨_, rfl, ⟨_, hp2⟩, for_parts hp2 hs2 (S := []) (fun d σ H' => (∃ o, σ = [some (.ref a), some (.str nm), some (.bl ev), some (.ref p), o]) ∧ Ext [] H2 H' ∧ ∀ g ∈ d, Ag nm (if isN f then !ev else ev) g = true) ⟨⟨_, rfl⟩, .refl, by simp⟩ (fun d σ H' z => z.2.1)
                (fun d x r u σ H' hk hx ⟨⟨o, e⟩, e3, hd⟩ => ?_) (fun σ H' ⟨⟨o, e⟩, e3, hd⟩ => ?_)⟩
              · subst e
                have h1' := (e2.trans e3).tup h1
                have hdp : dp x ≤ n := by
                  have := dp_kid (f := f) (g := x) (by rw [hk]; simp)
                  omega
                have fin : ∀ H4, Ext [] H' H4 → (Ag nm (if isN f then !ev else ev) x = false → Q (.bl false) H4) := fun H4 e4 ho => loop H1 e1 hb hpf H4 (e2.trans (e3.trans e4)) x d r hk ho
                refine ⟨_, rfl, _, rfl, _, rfl, _, _, _, _, rfl, rfl, h1', at_zero, rfl, _, rfl, ?_⟩
                rw [wd_isN]
                cases hi : isN f with
                | true =>
                  rw [hi] at fin hd
                  refine ifT rfl ?_
                  refine ⟨_, rfl, _, rfl, _, _, _, _, rfl, hx, hdp, fun H4 e4 => ?_⟩
                  have fin := fin H4 e4
                  simp only [if_true] at fin hd
                  cases ho : Ag nm (!ev) x with
                  | true => exact ⟨_, rfl, ifF rfl ⟨⟨_, rfl⟩, e3.trans e4, fun g hg => (List.mem_append.mp hg).elim (hd g) fun z => by rw [List.mem_singleton.mp z]; exact ho⟩⟩
                  | false => exact ⟨_, rfl, ifT rfl (fin ho)⟩
                | false =>
                  rw [hi] at fin hd
                  refine ifF rfl ?_
                  refine ⟨_, rfl, _, _, _, _, rfl, hx, hdp, fun H4 e4 => ?_⟩
                  have fin := fin H4 e4
                  simp only [Bool.false_eq_true, if_false] at fin hd
                  cases ho : Ag nm ev x with
                  | true => exact ⟨_, rfl, ifF rfl ⟨⟨_, rfl⟩, e3.trans e4, fun g hg => (List.mem_append.mp hg).elim (hd g) fun z => by rw [List.mem_singleton.mp z]; exact ho⟩⟩
                  | false => exact ⟨_, rfl, ifT rfl (fin ho)⟩
              · subst e
                exact tail H1 e1 hb hpf H' (e2.trans e3) hd
          · have hx : ∀ m vs g args, f ≠ fx false m vs g args := fun m vs g args e => hx ⟨m, vs, g, args, e⟩
            have hpf : pf f nm = true := pf_not hx
            have h1 := e1.tup h0
            refine ⟨_, rfl, _, _, _, _, rfl, rfl, h1, at_zero, rfl, _, rfl, ifF (wd_pfp hx) ?_⟩
            refine ifF rfl ?_
            refine ⟨_, rfl, _, _, rfl, hf1, fun p2 us H2 e2 hp2 hs2 => ?_⟩
            refine ⟨_, rfl, ⟨_, hp2⟩, for_parts hp2 hs2 (S := []) (fun d σ H' => (∃ o, σ = [some (.ref a), some (.str nm), some (.bl ev), some (.ref p), o]) ∧ Ext [] H2 H' ∧ ∀ g ∈ d, Ag nm (if isN f then !ev else ev) g = true) ⟨⟨_, rfl⟩, .refl, by simp⟩ (fun d σ H' z => z.2.1)
              (fun d x r u σ H' hk hx ⟨⟨o, e⟩, e3, hd⟩ => ?_) (fun σ H' ⟨⟨o, e⟩, e3, hd⟩ => ?_)⟩
            · subst e
              have h1' := (e2.trans e3).tup h1
              have hdp : dp x ≤ n := by
                have := dp_kid (f := f) (g := x) (by rw [hk]; simp)
                omega
              have fin : ∀ H4, Ext [] H' H4 → (Ag nm (if isN f then !ev else ev) x = false → Q (.bl false) H4) := fun H4 e4 ho => loop H1 e1 hb hpf H4 (e2.trans (e3.trans e4)) x d r hk ho
              refine ⟨_, rfl, _, rfl, _, rfl, _, _, _, _, rfl, rfl, h1', at_zero, rfl, _, rfl, ?_⟩
              rw [wd_isN]
              cases hi : isN f with
              | true =>
                rw [hi] at fin hd
                refine ifT rfl ?_
                refine ⟨_, rfl, _, rfl, _, _, _, _, rfl, hx, hdp, fun H4 e4 => ?_⟩
                have fin := fin H4 e4
                simp only [if_true] at fin hd
                cases ho : Ag nm (!ev) x with
                | true => exact ⟨_, rfl, ifF rfl ⟨⟨_, rfl⟩, e3.trans e4, fun g hg => (List.mem_append.mp hg).elim (hd g) fun z => by rw [List.mem_singleton.mp z]; exact ho⟩⟩
                | false => exact ⟨_, rfl, ifT rfl (fin ho)⟩
              | false =>
                rw [hi] at fin hd
                refine ifF rfl ?_
                refine ⟨_, rfl, _, _, _, _, rfl, hx, hdp, fun H4 e4 => ?_⟩
                have fin := fin H4 e4
                simp only [Bool.false_eq_true, if_false] at fin hd
                cases ho : Ag nm ev x with
                | true => exact ⟨_, rfl, ifF rfl ⟨⟨_, rfl⟩, e3.trans e4, fun g hg => (List.mem_append.mp hg).elim (hd g) fun z => by rw [List.mem_singleton.mp z]; exact ho⟩⟩
                | false => exact ⟨_, rfl, ifT rfl (fin ho)⟩
            · subst e
              exact tail H1 e1 hb hpf H' (e2.trans e3) hd
end
end Say
set_option maxRecDepth 100000
set_option maxHeartbeats 4000000
/-! first-order; a formula is looked at -/
namespace Say
open PySem PySem.Spec PyProof.Rows L2 Fm
section
variable {P : Program} {w : World} {K : PySem.W.Frag} {mg : Str → Option Value} {base : Heap} {f : Addr} {B : Nat}
def hgh (f : Fm) : Bool := match f with
  | fx _ _ _ _ _ => true
  | tc _ _ _ => true
  | gs _ _ _ => true
  | _ => false
theorem hgh_in {f : Fm} : inV (.str (wd f)) (sv ["lfp", "pfp", "tc", "guess"]) = hgh f := by
  rw [wd_in _ [8, 9, 10, 11] (by decide +kernel)]
  cases f with
  | cmp c _ _ => cases c <;> rfl
  | jn c _ => cases c <;> rfl
  | qu c _ _ => cases c <;> rfl
  | fx c _ _ _ _ => cases c <;> rfl
  | _ => rfl
theorem fo_step {f : Fm} : fo f = (!hgh f && (kids f).all fo) := by
  cases f with
  | rel nm args => rfl
  | cmp c x y => rfl
  | neg g => show fo g = (fo g && true); rw [Bool.and_true]
  | jn c fs =>
    show fos fs = fs.all fo
    apply Bool.eq_iff_iff.mpr
    rw [fos_all, List.all_eq_true]
  | qu c vs g => show fo g = (fo g && true); rw [Bool.and_true]
  | fx l m vs g args => rfl
  | tc vs g args => rfl
  | gs m ar g => rfl
def spPlain (K : PySem.W.Frag) (n : Nat) : L2.Sp := fun vs H Q _ => ∃ f v, vs = [v] ∧ Rp K H f v ∧ dp f ≤ n ∧ ∀ H', Ext [] H H' → Q (.bl (fo f)) H'
theorem sc_is_plain : FnScope ["formula", "part"] ["formula"] (defScope s_is_plain) := ⟨rfl, rfl, rfl, by decide +kernel, rfl, by decide +kernel, by decide +kernel⟩
theorem hs_is_plain (T : Tx w K mg) (D : Dn K mg "is_plain" s_is_plain f) (h_inner : Hs P w K mg base CX0 1 "inner" ["formula"] (spInner K)) :
    ∀ n, Hs P w K mg base CX0 (1 + n + 1) "is_plain" ["formula"] (spPlain K n) := by
  intro n
  induction n with
  | zero =>
    refine Hs.of D sc_is_plain (fun vs H Q E h => ?_) (fun _ _ _ _ _ _ us hl => match us, hl with | [_], _ => rfl) (fun cdv A outer s H vs Q E hr h => ?_)
    · obtain ⟨f, v, rfl, _⟩ := h
      rfl
    obtain ⟨f, v, rfl, _, h, _⟩ := h
    exact absurd (dp_pos f) (by omega)
  | succ n ih =>
    have h_is_plain := ih
    refine Hs.of D sc_is_plain (fun vs H Q E h => ?_) (fun _ _ _ _ _ _ us hl => match us, hl with | [_], _ => rfl) (fun cdv A outer s H vs Q E hr h => ?_)
    · obtain ⟨f, v, rfl, _⟩ := h
      rfl
    obtain ⟨f, v, rfl, hf, hn, q⟩ := h
    refine ⟨_, PSs.nox (pss_cons (ps_if (pt_cmpR op_in_seq (pe_ix ix_tup (pv 0) pe_int (fun _ _ => rfl)) (pe_tup (pa_cons pe_str (pa_cons pe_str (pa_cons pe_str (pa_cons pe_str pa_nil))))) rfl) (pss_one (ps_ret pe_bl)) pss_nil)
      (pss_cons (ps_for PassesOwn.never rfl (pi_tup (pe_h h_inner (hr.mono (by omega)) rfl pass0 (pa_cons (pv 0) pa_nil))) (pg_name (i := 1) sc_is_plain.nd rfl (by first | exact Or.inl rfl | exact Or.inr rfl)) (pss_one (ps_if (pt_not (pt_val (pe_h h_is_plain (hr.mono (by omega)) rfl pass0 (pa_cons (pv 1) pa_nil)))) (pss_one (ps_ret pe_bl)) pss_nil)))
      (pss_one (ps_ret pe_bl)))), ?_⟩
    have hf' := hf
    obtain ⟨a, xs, rfl, h1⟩ := Rp.at f hf
    refine ⟨_, rfl, _, _, _, _, rfl, rfl, h1, at_zero, sz 4 rfl, fun t ht => ?_⟩
    have e0 : Ext [] H (upd H t (.tup [.str "lfp", .str "pfp", .str "tc", .str "guess"])) := .new ht
    refine ⟨_, _, rfl, .inr (SqT.of upd_same), rfl, rfl, _, rfl, ?_⟩
    have fs := fo_step (f := f)
    cases hh : hgh f with
    | true =>
      refine ifT (hgh_in.trans hh) ?_
      have y := q _ e0
      rw [fs, hh] at y
      exact y
    | false =>
      refine ifF (hgh_in.trans hh) ?_
      refine ⟨_, rfl, _, _, rfl, Rp.ext e0 f hf', fun p us H2 e2 hp hs => ?_⟩
      refine ⟨_, rfl, ⟨_, hp⟩, for_parts hp hs (S := []) (fun d σ H' => (∃ o, σ = [some (.ref a), o]) ∧ Ext [] H2 H' ∧ ∀ g ∈ d, fo g = true) ⟨⟨_, rfl⟩, .refl, by simp⟩ (fun d σ H' z => z.2.1)
        (fun d x r u σ H' hk hx ⟨⟨o, e⟩, e3, hd⟩ => ?_) (fun σ H' ⟨⟨o, e⟩, e3, hd⟩ => ?_)⟩
      · subst e
        refine ⟨_, rfl, _, _, rfl, hx, ?_, fun H4 e4 => ?_⟩
        · have := dp_kid (f := f) (g := x) (by rw [hk]; simp)
          omega
        · cases ho : fo x with
          | true => exact ⟨_, rfl, ifF rfl ⟨⟨_, rfl⟩, e3.trans e4, fun g hg => (List.mem_append.mp hg).elim (hd g) fun z => by rw [List.mem_singleton.mp z]; exact ho⟩⟩
          | false =>
            refine ⟨_, rfl, ifT rfl ?_⟩
            have y := q H4 (e0.trans (e2.trans (e3.trans e4)))
            rw [fs, hh, hk, List.all_append, List.all_cons, ho] at y
            have y : Q (.bl false) H4 := by simpa using y
            exact y
      · subst e
        have y := q H' (e0.trans (e2.trans e3))
        rw [fs, hh, List.all_eq_true.mpr hd] at y
        exact y
/-! ### Look -/
abbrev cLk (K : PySem.W.Frag) : Addr := He.ga K "Look"
structure Lk (K : PySem.W.Frag) (H : Hp) (x dx d : Addr) (c : Nat) (kvs : List (Key × V)) : Prop where
  at_ : H x = some (.ins (cLk K) dx [("count", .int (c : Nat)), ("found", .ref d)])
  fd : H d = some (.dK kvs)
def Bd (b : Str → Option Nat) (kb : List (Key × V)) : Prop := ∀ nm, valV kb (Sum.inr nm) = (b nm).map fun k => V.int (k : Nat)
def Fd (s0 : Str → Nat) (kvs : List (Key × V)) : Prop := ∀ nm v, valV kvs (Sum.inr nm) = some v → v = V.int (s0 nm : Nat)
theorem Bd.set {b : Str → Option Nat} {kb : List (Key × V)} (h : Bd b kb) (nm : Str) (k : Nat) : Bd (setb b nm k) (putK kb (Sum.inr nm) (.int (k : Nat))) := fun x => by
  rw [valV_put]
  unfold setb
  by_cases e : x = nm
  · rw [if_pos e, if_pos (by rw [e])]; rfl
  · rw [if_neg e, if_neg fun z => e (Sum.inr.inj z)]; exact h x
theorem Fd.set {s0 : Str → Nat} {kvs : List (Key × V)} (h : Fd s0 kvs) (nm : Str) : Fd s0 (putK kvs (Sum.inr nm) (.int (s0 nm : Nat))) := fun x v => by
  rw [valV_put]
  by_cases e : x = nm
  · rw [if_pos (by rw [e])]
    intro z
    rw [← Option.some.inj z, e]
  · rw [if_neg fun z => e (Sum.inr.inj z)]; exact h x v
def spLInit (K : PySem.W.Frag) : L2.Sp := fun vs H Q _ => ∃ x dx, vs = [.ref x] ∧ H x = some (.ins (cLk K) dx []) ∧ ∀ d, H d = none → ∀ H', H' = upd (upd (upd H x (.ins (cLk K) dx [("count", .int 0)])) d (.dK [])) x (.ins (cLk K) dx [("count", .int 0), ("found", .ref d)]) → Q .non H'
theorem sc_Look_init : FnScope ["self"] ["self"] (defScope s_Look_init) := ⟨rfl, rfl, rfl, by decide +kernel, rfl, by decide +kernel, by decide +kernel⟩
theorem hi_Look_of (T : Tx w K mg) (D : Di K (cLk K) "Look.__init__" s_Look_init f) : Hi P w K mg base CX0 1 (cLk K) ["self"] (spLInit K) := by
  refine Hi.of D sc_Look_init (fun vs H Q E h => ?_) (fun _ _ _ _ _ _ us hl => match us, hl with | [_], _ => rfl) (fun cdv A outer s H vs Q E hr h => ?_)
  · obtain ⟨x, dx, rfl, _⟩ := h
    rfl
  obtain ⟨x, dx, rfl, hx, q⟩ := h
  refine ⟨_, PSs.nox (pss_cons (ps_fld (pv 0) pe_int rfl)
      (pss_one (ps_fld (pv 0) pe_dnewK rfl))), ?_⟩
  refine ⟨_, rfl, _, _, _, _, rfl, hx, T.cLook, T.nCount, (by show 0 < 1000; decide), ?_⟩
  intro d hd
  have hxd : x ≠ d := ne_of_none (o := .ins (cLk K) dx [("count", .int 0)]) upd_same hd
  have hd0 : H d = none := by rw [upd_ne hxd.symm] at hd; exact hd
  refine ⟨_, rfl, _, _, _, _, rfl, (upd_ne hxd).trans upd_same, T.cLook, T.nFound, (by show 1 < 1000; decide), ?_⟩
  exact q d hd0 _ rfl
def spLRel (K : PySem.W.Frag) : L2.Sp := fun vs H Q _ => ∃ x nm ar bd dx d c kvs kb b s0, vs = [.ref x, .str nm, .int (ar : Nat), .ref bd] ∧ Lk K H x dx d c kvs ∧ H bd = some (.dK kb) ∧ Bd b kb ∧ Fd s0 kvs ∧ ar = (b nm).getD (s0 nm) ∧ kvs.length ≤ 10000 ∧
  (∀ H' kvs', Ext [d] H H' → H' d = some (.dK kvs') → Fd s0 kvs' → kvs'.length ≤ kvs.length + 1 → Q .non H')
theorem sc_Look_rel : FnScope ["self", "name", "arity", "bound"] ["self", "name", "arity", "bound"] (defScope s_Look_rel) := ⟨rfl, rfl, rfl, by decide +kernel, rfl, by decide +kernel, by decide +kernel⟩
theorem hm_Look_rel_of (T : Tx w K mg) (D : Dm K (cLk K) "rel" "Look.rel" s_Look_rel f) : Hm P w K mg base CX0 1 (cLk K) "rel" ["self", "name", "arity", "bound"] (spLRel K) := by
  refine Hm.of D sc_Look_rel (fun vs H Q E h => ?_) (fun _ _ _ _ _ _ us hl => match us, hl with | [_, _, _, _], _ => rfl) (fun cdv A outer s H vs Q E hr h => ?_)
  · obtain ⟨x, nm, ar, bd, dx, d, c, kvs, kb, b, s0, rfl, _⟩ := h
    rfl
  obtain ⟨x, nm, ar, bd, dx, d, c, kvs, kb, b, s0, rfl, L, hb, hB, hF, har, hl, q⟩ := h
  refine ⟨_, PSs.nox (pss_one (ps_if (pt_cmp (pc_din (hu_of hr) (pv 1) (pv 3)) rfl) (pss_one (ps_if (pt_cmpR op_ne (pe_dget (hu_of hr) (pv 3) (pv 1) (fun _ _ => rfl)) (pv 2) (nomark _)) (pss_one ps_never) pss_nil)) (pss_one (ps_if (pt_cmpR op_ne (pe_dsetd (pe_fld (pv 0) rfl) (pv 1) (pv 2) ⟨rfl, rfl, rfl, rfl⟩) (pv 2) (nomark _)) (pss_one ps_never) pss_nil)))), ?_⟩
  refine ⟨_, rfl, _, rfl, bd, _, rfl, DGet.k (k := Sum.inr nm) hb, _, rfl, ?_⟩
  cases hn : b nm with
  | some k =>
    have e : valV kb (Sum.inr nm) = some (V.int (k : Nat)) := by rw [hB nm, hn]; rfl
    rw [hn] at har
    refine ifT (by rw [e]; rfl) ?_
    refine ⟨_, rfl, _, rfl, bd, _, rfl, by rw [← e]; exact DGet.k (k := Sum.inr nm) hb, ?_⟩
    refine ⟨_, rfl, rfl, _, rfl, ifF (by rw [har]; simp) ?_⟩
    exact q _ _ .refl L.fd hF (by omega)
  | none =>
    have e : valV kb (Sum.inr nm) = none := by rw [hB nm, hn]; rfl
    rw [hn] at har
    have har : ar = s0 nm := har
    refine ifF (by rw [e]; rfl) ?_
    refine ⟨_, rfl, _, _, _, _, _, rfl, L.at_, T.cLook, T.nFound, rfl, _, rfl, .inl ⟨_, .inl L.fd⟩, ?_⟩
    refine ⟨_, rfl, _, rfl, kvs, Sum.inr nm, L.fd, rfl, big_sz (by omega), fun v hv => ?_, fun hv => ?_⟩
    · rw [hF nm v hv]
      refine ⟨_, rfl, rfl, _, rfl, ifF (by rw [har]; simp) ?_⟩
      exact q _ _ .refl L.fd hF (by omega)
    · refine ⟨_, rfl, rfl, _, rfl, ifF (by simp) ?_⟩
      refine q _ _ (Ext.put (.refl) (by simp) L.fd rfl) upd_same ?_ (length_putK _ _ _)
      rw [har]
      exact hF.set nm
/-! ### go -/
/-- the bound names within -/
def inB (b : Str → Option Nat) (f : Fm) : Str → Option Nat := match ownN f with
  | some p => setb b p.1 p.2
  | none => b
theorem wf_kids {s0 : Str → Nat} {b : Str → Option Nat} {f : Fm} (h : Wf s0 b f) : ∀ g ∈ kids f, Wf s0 (inB b f) g := by
  cases f with
  | rel nm args => intro g hg; cases hg
  | cmp c x y => intro g hg; cases hg
  | neg g0 => intro g hg; rw [List.mem_singleton.mp hg]; exact h
  | jn c fs => exact wfs_all.mp h.2
  | qu c vs g0 => intro g hg; rw [List.mem_singleton.mp hg]; exact h.2
  | fx l m vs g0 args => intro g hg; rw [List.mem_singleton.mp hg]; exact h.2.2.2.1
  | tc vs g0 args => intro g hg; rw [List.mem_singleton.mp hg]; exact h.2.2
  | gs m ar g0 => intro g hg; rw [List.mem_singleton.mp hg]; exact h.2.2
theorem pts_app : ∀ {a b : List Fm}, pts (a ++ b) = pts a + pts b
  | [], b => by simp [pts]
  | f :: a, b => by
    show pt f + pts (a ++ b) = pt f + pts a + pts b
    rw [pts_app]; omega
def spGo (K : PySem.W.Frag) (n : Nat) : L2.Sp := fun vs H Q _ => ∃ x v bd, ∃ deep : Nat, ∃ dx d c kvs kb b s0 f, vs = [.ref x, v, .ref bd, .int (deep : Nat)] ∧ Rp K H f v ∧ Wf s0 b f ∧ dp f ≤ n ∧ Lk K H x dx d c kvs ∧ H bd = some (.dK kb) ∧ bd ≠ d ∧ Bd b kb ∧ Fd s0 kvs ∧
  kvs.length ≤ c ∧ kb.length ≤ deep ∧ c + pt f ≤ 2000 ∧ deep + dp f ≤ 41 ∧
  (∀ H' kvs', Ext [x, d] H H' → Lk K H' x dx d (c + pt f) kvs' → Fd s0 kvs' → kvs'.length ≤ c + pt f → Q .non H')
theorem sc_Look_go : FnScope ["self", "formula", "bound", "deep", "own", "part"] ["self", "formula", "bound", "deep"] (defScope s_Look_go) := ⟨rfl, rfl, rfl, by decide +kernel, rfl, by decide +kernel, by decide +kernel⟩
theorem hm_Look_go_of (T : Tx w K mg) (D : Dm K (cLk K) "go" "Look.go" s_Look_go f) (h_is_well_made : Hs P w K mg base CX0 4 "is_well_made" ["formula"] (spWm K)) (h_own_name : Hs P w K mg base CX0 1 "own_name" ["formula"] (spOwnN K)) (h_inner : Hs P w K mg base CX0 1 "inner" ["formula"] (spInner K))
    (h_agrees0 : ∀ n, Hs P w K mg base CX0 (2 + n + 1) "agrees" ["formula", "name", "even"] (spAg K n)) (hm_Look_rel : Hm P w K mg base CX0 1 (cLk K) "rel" ["self", "name", "arity", "bound"] (spLRel K)) :
    ∀ n, Hm P w K mg base CX0 (4 + n + 1) (cLk K) "go" ["self", "formula", "bound", "deep"] (spGo K n) := by
  intro n
  induction n with
  | zero =>
    refine Hm.of D sc_Look_go (fun vs H Q E h => ?_) (fun _ _ _ _ _ _ us hl => match us, hl with | [_, _, _, _], _ => rfl) (fun cdv A outer s H vs Q E hr h => ?_)
    · obtain ⟨x, v, bd, deep, dx, d, c, kvs, kb, b, s0, f, rfl, _⟩ := h
      rfl
    obtain ⟨x, v, bd, deep, dx, d, c, kvs, kb, b, s0, f, rfl, _, _, h, _⟩ := h
    exact absurd (dp_pos f) (by omega)
  | succ n ih =>
    have hm_Look_go := ih
    have h_agrees := h_agrees0 n
    refine Hm.of D sc_Look_go (fun vs H Q E h => ?_) (fun _ _ _ _ _ _ us hl => match us, hl with | [_, _, _, _], _ => rfl) (fun cdv A outer s H vs Q E hr h => ?_)
    · obtain ⟨x, v, bd, deep, dx, d, c, kvs, kb, b, s0, f, rfl, _⟩ := h
      rfl
    obtain ⟨x, v, bd, deep, dx, d, c, kvs, kb, b, s0, f, rfl, hf, wf, hn, L, hb, hbd, hB, hF, hl, hkb, hc, hdp, q⟩ := h
    refine ⟨_, PSs.nox (pss_cons (ps_fldaug (pv 0) pe_int in_add)
      (pss_cons (ps_if (PW.pt (pw_or (pt_cmpR op_gt (pe_fld (pv 0) rfl) (pe_glob (v := .int 2000) rfl T.most.choose_spec ⟨_, rfl⟩) (nomark _)) (pw_or1 (pt_cmpR op_gt (pv 3) (pe_glob (v := .int 40) rfl T.deepest.choose_spec ⟨_, rfl⟩) (nomark _))))) (pss_one ps_never) pss_nil)
      (pss_cons (ps_if (pt_not (pt_val (pe_h h_is_well_made (hr.mono (by omega)) rfl pass0 (pa_cons (pv 1) pa_nil)))) (pss_one ps_never) pss_nil)
      (pss_cons (ps_if (pt_cmpR op_eq (pe_ix ix_tup (pv 1) pe_int (fun _ _ => rfl)) pe_str (nomark _)) (pss_one (ps_expr (pe_mt hm_Look_rel (hr.mono (by omega)) (pv 0) T.cLook pass0 (pa_cons (pe_ix ix_tup (pv 1) pe_int (fun _ _ => rfl)) (pa_cons (pe_callB call_len_seq (by rfl) T.zlen PySem.boot_len (pa_cons (pe_ix ix_tup (pv 1) pe_int (fun _ _ => rfl)) pa_nil)) (pa_cons (pv 2) pa_nil)))))) pss_nil)
      (pss_cons (ps_set (i := 4) sc_Look_go.nd rfl (by first | exact Or.inl rfl | exact Or.inr rfl) (pe_h h_own_name (hr.mono (by omega)) rfl pass0 (pa_cons (pv 1) pa_nil)))
      (pss_cons (ps_if (pt_cmpR op_notN (pv 4) pe_non (nomark _)) (pss_cons (ps_set (i := 2) sc_Look_go.nd rfl (by first | exact Or.inl rfl | exact Or.inr rfl) (pe_callTy call_dictD (by rfl) T.zdict (by decide +kernel) (pa_cons (pv 2) pa_nil)))
      (pss_one (ps_dput (hu_of hr) (pv 2) (pe_ix ix_tup (pv 4) pe_int (fun _ _ => rfl)) (pe_ix ix_tup (pv 4) pe_int (fun _ _ => rfl)) rfl))) pss_nil)
      (pss_cons (ps_for PassesOwn.never rfl (pi_tup (pe_h h_inner (hr.mono (by omega)) rfl pass0 (pa_cons (pv 1) pa_nil))) (pg_name (i := 5) sc_Look_go.nd rfl (by first | exact Or.inl rfl | exact Or.inr rfl)) (pss_one (ps_expr (pe_mt hm_Look_go (hr.mono (by omega)) (pv 0) T.cLook pass0 (pa_cons (pv 5) (pa_cons (pv 2) (pa_cons (pe_op op_add (pv 3) pe_int) pa_nil)))))))
      (pss_one (ps_if (PW.pt (pw_and (pt_cmpR op_eq (pe_ix ix_tup (pv 1) pe_int (fun _ _ => rfl)) pe_str (nomark _)) (pw_and1 (pt_not (pt_val (pe_h h_agrees (hr.mono (by omega)) rfl pass0 (pa_cons (pe_ix ix_tup (pv 1) pe_int (fun _ _ => rfl)) (pa_cons (pe_ix ix_tup (pv 1) pe_int (fun _ _ => rfl)) (pa_cons pe_bl pa_nil))))))))) (pss_one ps_never) pss_nil))))))))), ?_⟩
    have pp := pt_pos f
    have dd := dp_pos f
    -- self.count += 1
    refine ⟨_, rfl, _, _, _, _, _, rfl, L.at_, T.cLook, T.nCount, rfl, _, _, rfl, rfl, _, _, L.at_, (by show 2 < 1000; decide), ?_⟩
    have hxd : x ≠ d := ne_of L.at_ L.fd (by intro z; cases z)
    have hxb : x ≠ bd := ne_of L.at_ hb (by intro z; cases z)
    have L1 : Lk K (upd H x (.ins (cLk K) dx [("count", .int ((c : Nat) + 1)), ("found", .ref d)])) x dx d (c + 1) kvs := ⟨upd_same, (upd_ne hxd.symm).trans L.fd⟩
    have E1 : Ext [x, d] H (upd H x (.ins (cLk K) dx [("count", .int ((c : Nat) + 1)), ("found", .ref d)])) := Ext.put .refl (by simp) L.at_ rfl
    have hb1 : upd H x (.ins (cLk K) dx [("count", .int ((c : Nat) + 1)), ("found", .ref d)]) bd = some (.dK kb) := (upd_ne hxb.symm).trans hb
    refine ⟨_, rfl, _, _, _, _, _, rfl, L1.at_, T.cLook, T.nCount, rfl, _, _, rfl, rfl, _, rfl, ifF (decide_eq_false (by show ¬ ((c + 1 : Nat) : Int) > 2000; omega)) ?_⟩
    refine ⟨_, rfl, _, _, rfl, rfl, _, rfl, ifF (decide_eq_false (by show ¬ ((deep : Nat) : Int) > 40; omega)) ?_⟩
    refine ⟨_, rfl, _, _, _, _, rfl, Rp.ext E1 f hf, wf, fun H2 e2 => ⟨_, rfl, ifF rfl ?_⟩⟩
    have E2 := E1.trans e2.any
    have L2 : Lk K H2 x dx d (c + 1) kvs := ⟨e2.get0 L1.at_, e2.get0 L1.fd⟩
    have hb2 := e2.get0 hb1
    by_cases hrel : ∃ m args, f = rel m args
    · obtain ⟨m, args, rfl⟩ := hrel
      have hf2 := Rp.ext E2 _ hf
      obtain ⟨a, b2, rfl, k1, k2⟩ := hf2
      have hlen : (sv args).length = args.length := List.length_map _
      refine ⟨_, rfl, _, _, _, _, rfl, rfl, k1, rfl, rfl, _, rfl, ifT (decide_eq_true rfl) ?_⟩
      refine ⟨_, rfl, _, _, _, rfl, L2.at_, rfl, _, rfl, _, _, _, _, rfl, rfl, k1, rfl, _, rfl, _, _, _, _, rfl, rfl, k1, rfl, _, _, rfl, .inr k2, _, rfl, ?_⟩
      refine ⟨_, _, (sv args).length, _, _, _, _, _, _, b, s0, rfl, L2, hb2, hB, hF, by rw [hlen]; exact wf.2.2.2, by omega, fun H3 kvs3 e3 hd3 hF3 hl3 => ?_⟩
      have E3 := E2.trans (e3.mono (T := [x, d]) (by simp))
      have L3 : Lk K H3 x dx d (c + 1) kvs3 := ⟨e3.get L2.at_ (by simp [hxd]), hd3⟩
      have hfin : pt (rel m args) = 1 := rfl
      refine ⟨_, rfl, _, _, rfl, Rp.ext E3 _ hf, fun _ => ?_, fun _ _ z => by cases z⟩
      refine ⟨_, rfl, rfl, _, rfl, ifF rfl ?_⟩
      refine ⟨_, rfl, _, _, rfl, Rp.ext E3 _ hf, fun p2 us H5 e5 hp2 hs2 => ?_⟩
      have E5 := E3.trans e5.any
      refine ⟨_, rfl, ⟨_, hp2⟩, for_parts hp2 hs2 (S := []) (fun dn σ H' => (∃ o, σ = [some (.ref x), some (.ref a), some (.ref bd), some (.int (deep : Nat)), some .non, o]) ∧ H' = H5) ⟨⟨_, rfl⟩, rfl⟩ (fun dn σ H' z => by rw [z.2]; exact .refl)
        (fun dn x1 r u σ H' hk hx z => ?_) (fun σ H' ⟨⟨o, e⟩, e3⟩ => ?_)⟩
      · have hk : ([] : List Fm) = dn ++ x1 :: r := hk
        simp at hk
      · subst e e3
        have hf5 := Rp.ext E5 _ hf
        obtain ⟨a', b', e', k1', k2'⟩ := hf5
        cases e'
        refine ⟨_, rfl, _, _, _, _, rfl, rfl, k1', rfl, rfl, _, rfl, ifF (decide_eq_false fun z => absurd (V.str.inj z : ("rel" : Str) = "lfp") (by decide +kernel)) ?_⟩
        exact ifF rfl (q _ kvs3 E5 ⟨e5.get0 L3.at_, e5.get0 L3.fd⟩ hF3 (by omega))
    · have hrel : ∀ m args, f ≠ rel m args := fun m args e => hrel ⟨m, args, e⟩
      obtain ⟨a, xs, rfl, h1⟩ := Rp.at f hf
      refine ⟨_, rfl, _, _, _, _, rfl, rfl, E2.tup h1, at_zero, rfl, _, rfl, ifF (wd_rel hrel) ?_⟩
      refine ⟨_, rfl, _, _, rfl, Rp.ext E2 f hf, fun ow => ?_, fun m k ow p H3 e3 hp => ?_⟩
      · have hin : inB b f = b := by unfold inB; rw [ow]
        have wf_kids : ∀ (w : Wf s0 b f), ∀ g ∈ kids f, Wf s0 b g := fun w g hg => by have := wf_kids w g hg; rw [hin] at this; exact this
        refine ⟨_, rfl, rfl, _, rfl, ifF rfl ?_⟩
        refine ⟨_, rfl, _, _, rfl, Rp.ext E2 f hf, fun p2 us H5 e5 hp2 hs2 => ?_⟩
        have E5 := E2.trans e5.any
        have L5 : Lk K H5 x dx d (c + 1) kvs := ⟨e5.get0 L2.at_, e5.get0 L2.fd⟩
        refine ⟨_, rfl, ⟨_, hp2⟩, for_parts hp2 hs2 (S := [x, d]) (fun dn σ H' => (∃ o, σ = [some (.ref x), some (.ref a), some (.ref bd), some (.int (deep : Nat)), some (.non), o]) ∧ Ext [x, d] H5 H' ∧ ∃ kvs', Lk K H' x dx d (c + 1 + pts dn) kvs' ∧ Fd s0 kvs' ∧ kvs'.length ≤ c + 1 + pts dn)
          ⟨⟨_, rfl⟩, .refl, kvs, L5, hF, by omega⟩ (fun dn σ H' z => z.2.1) (fun dn x1 r u σ H' hk hx ⟨⟨o, e⟩, e3, kvs', L6, hF6, hl6⟩ => ?_) (fun σ H' ⟨⟨o, e⟩, e3, kvs', L6, hF6, hl6⟩ => ?_)⟩
        · subst e
          have hdp1 := dp_kid (f := f) (g := x1) (by rw [hk]; simp)
          have hpt : pt f = pts dn + (pt x1 + pts r) + 1 := by rw [pts_kids, hk, pts_app]; rfl
          have hb6 : H' bd = some (.dK kb) := e3.get (e5.get0 hb2) (by simp [hxb.symm, hbd])
          refine ⟨_, rfl, _, _, _, rfl, L6.at_, rfl, _, rfl, _, rfl, _, rfl, _, _, rfl, rfl, ?_⟩
          refine ⟨_, _, _, deep + 1, _, _, _, _, _, b, s0, x1, rfl, hx, wf_kids wf x1 (by rw [hk]; simp), by omega, L6, hb6, hbd, hB, hF6, hl6, by omega, by omega, by omega, fun H7 kvs7 e7 L7 hF7 hl7 => ?_⟩
          have e : pts (dn ++ [x1]) = pts dn + pt x1 := by rw [pts_app]; rfl
          refine ⟨⟨_, rfl⟩, e3.trans e7, kvs7, ?_, hF7, by rw [e]; omega⟩
          rw [e, ← Nat.add_assoc]
          exact L7
        · subst e
          have hpt : pt f = pts (kids f) + 1 := pts_kids f
          have E6 := E5.trans e3
          have fin : Lk K H' x dx d (c + pt f) kvs' := by rw [show c + pt f = c + 1 + pts (kids f) by omega]; exact L6
          by_cases hx : ∃ m vs g args, f = fx true m vs g args
          · obtain ⟨m', vs, g, args, rfl⟩ := hx
            have hf2 := Rp.ext E6 _ hf
            obtain ⟨a', b', c', u', e', k1, k2, k3, k4⟩ := hf2
            cases e'
            refine ⟨_, rfl, _, _, _, _, rfl, rfl, k1, rfl, rfl, _, rfl, ifT (decide_eq_true rfl) ?_⟩
            refine ⟨_, rfl, _, _, _, _, rfl, rfl, k1, rfl, _, rfl, _, _, _, _, rfl, rfl, k1, rfl, _, _, _, _, rfl, k4, by have := dp_kid (f := fx true m' vs g args) (g := g) (by simp [kids]); omega, fun H8 e8 => ⟨_, rfl, ?_⟩⟩
            rw [wf.2.2.2.2 rfl]
            exact ifF rfl (q H8 kvs' (E6.trans e8.any) ⟨e8.get0 fin.at_, e8.get0 fin.fd⟩ hF6 (by omega))
          · have hx : ∀ m vs g args, f ≠ fx true m vs g args := fun m vs g args e => hx ⟨m, vs, g, args, e⟩
            refine ⟨_, rfl, _, _, _, _, rfl, rfl, E6.tup h1, at_zero, rfl, _, rfl, ifF (wd_lfp hx) ?_⟩
            exact ifF rfl (q H' kvs' E6 fin hF6 (by omega))
      · have hin : inB b f = setb b m k := by unfold inB; rw [ow]
        have wf_kids : ∀ (w : Wf s0 b f), ∀ g ∈ kids f, Wf s0 (setb b m k) g := fun w g hg => by have := wf_kids w g hg; rw [hin] at this; exact this
        have E3 := E2.trans e3.any
        have L3 : Lk K H3 x dx d (c + 1) kvs := ⟨e3.get0 L2.at_, e3.get0 L2.fd⟩
        have hb3 := e3.get0 hb2
        refine ⟨_, rfl, rfl, _, rfl, ifT rfl ?_⟩
        refine ⟨_, rfl, _, _, rfl, .inl hb3, fun bd2 hbd2 => ?_⟩
        have e4 : Ext [] H3 (upd H3 bd2 (.dK kb)) := .new hbd2
        have hp4 := e4.tup hp
        refine ⟨_, rfl, _, _, _, _, rfl, rfl, hp4, rfl, _, rfl, _, rfl, _, _, _, _, rfl, rfl, hp4, rfl, bd2, _, rfl, DPut.k (k := Sum.inr m) upd_same (big_sz (by omega)), ?_⟩
        have hx2 : bd2 ≠ x := (ne_of_none L3.at_ hbd2).symm
        have hd2 : bd2 ≠ d := (ne_of_none L3.fd hbd2).symm
        have E4 : Ext [x, d] H (upd (upd H3 bd2 (.dK kb)) bd2 (.dK (putK kb (Sum.inr m) (.int (k : Nat))))) := E3.trans ((e4.mut hbd2).any)
        have L4 : Lk K (upd (upd H3 bd2 (.dK kb)) bd2 (.dK (putK kb (Sum.inr m) (.int (k : Nat))))) x dx d (c + 1) kvs := ⟨(e4.mut hbd2).get0 L3.at_, (e4.mut hbd2).get0 L3.fd⟩
        have hb4 : upd (upd H3 bd2 (.dK kb)) bd2 (.dK (putK kb (Sum.inr m) (.int (k : Nat)))) bd2 = some (.dK (putK kb (Sum.inr m) (.int (k : Nat)))) := upd_same
        have hlp := length_putK kb (Sum.inr m) (.int (k : Nat))
        refine ⟨_, rfl, _, _, rfl, Rp.ext E4 f hf, fun p2 us H5 e5 hp2 hs2 => ?_⟩
        have E5 := E4.trans e5.any
        have L5 : Lk K H5 x dx d (c + 1) kvs := ⟨e5.get0 L4.at_, e5.get0 L4.fd⟩
        refine ⟨_, rfl, ⟨_, hp2⟩, for_parts hp2 hs2 (S := [x, d]) (fun dn σ H' => (∃ o, σ = [some (.ref x), some (.ref a), some (.ref bd2), some (.int (deep : Nat)), some (.ref p), o]) ∧ Ext [x, d] H5 H' ∧ ∃ kvs', Lk K H' x dx d (c + 1 + pts dn) kvs' ∧ Fd s0 kvs' ∧ kvs'.length ≤ c + 1 + pts dn)
          ⟨⟨_, rfl⟩, .refl, kvs, L5, hF, by omega⟩ (fun dn σ H' z => z.2.1) (fun dn x1 r u σ H' hk hx ⟨⟨o, e⟩, e3, kvs', L6, hF6, hl6⟩ => ?_) (fun σ H' ⟨⟨o, e⟩, e3, kvs', L6, hF6, hl6⟩ => ?_)⟩
        · subst e
          have hdp1 := dp_kid (f := f) (g := x1) (by rw [hk]; simp)
          have hpt : pt f = pts dn + (pt x1 + pts r) + 1 := by rw [pts_kids, hk, pts_app]; rfl
          have hb6 : H' bd2 = some (.dK (putK kb (Sum.inr m) (.int (k : Nat)))) := e3.get (e5.get0 hb4) (by simp [hx2, hd2])
          refine ⟨_, rfl, _, _, _, rfl, L6.at_, rfl, _, rfl, _, rfl, _, rfl, _, _, rfl, rfl, ?_⟩
          refine ⟨_, _, _, deep + 1, _, _, _, _, _, (setb b m k), s0, x1, rfl, hx, wf_kids wf x1 (by rw [hk]; simp), by omega, L6, hb6, hd2, (hB.set m k), hF6, hl6, by omega, by omega, by omega, fun H7 kvs7 e7 L7 hF7 hl7 => ?_⟩
          have e : pts (dn ++ [x1]) = pts dn + pt x1 := by rw [pts_app]; rfl
          refine ⟨⟨_, rfl⟩, e3.trans e7, kvs7, ?_, hF7, by rw [e]; omega⟩
          rw [e, ← Nat.add_assoc]
          exact L7
        · subst e
          have hpt : pt f = pts (kids f) + 1 := pts_kids f
          have E6 := E5.trans e3
          have fin : Lk K H' x dx d (c + pt f) kvs' := by rw [show c + pt f = c + 1 + pts (kids f) by omega]; exact L6
          by_cases hx : ∃ m vs g args, f = fx true m vs g args
          · obtain ⟨m', vs, g, args, rfl⟩ := hx
            have hf2 := Rp.ext E6 _ hf
            obtain ⟨a', b', c', u', e', k1, k2, k3, k4⟩ := hf2
            cases e'
            refine ⟨_, rfl, _, _, _, _, rfl, rfl, k1, rfl, rfl, _, rfl, ifT (decide_eq_true rfl) ?_⟩
            refine ⟨_, rfl, _, _, _, _, rfl, rfl, k1, rfl, _, rfl, _, _, _, _, rfl, rfl, k1, rfl, _, _, _, _, rfl, k4, by have := dp_kid (f := fx true m' vs g args) (g := g) (by simp [kids]); omega, fun H8 e8 => ⟨_, rfl, ?_⟩⟩
            rw [wf.2.2.2.2 rfl]
            exact ifF rfl (q H8 kvs' (E6.trans e8.any) ⟨e8.get0 fin.at_, e8.get0 fin.fd⟩ hF6 (by omega))
          · have hx : ∀ m vs g args, f ≠ fx true m vs g args := fun m vs g args e => hx ⟨m, vs, g, args, e⟩
            refine ⟨_, rfl, _, _, _, _, rfl, rfl, E6.tup h1, at_zero, rfl, _, rfl, ifF (wd_lfp hx) ?_⟩
            exact ifF rfl (q H' kvs' E6 fin hF6 (by omega))
def spLooked (K : PySem.W.Frag) : L2.Sp := fun vs H Q _ => ∃ f v s0, vs = [v] ∧ Rp K H f v ∧ Wf s0 (fun _ => none) f ∧ pt f ≤ 2000 ∧ dp f ≤ 40 ∧ ∀ H' v', Ext [] H H' → Q v' H'
theorem sc_looked : FnScope ["formula", "look"] ["formula"] (defScope s_looked) := ⟨rfl, rfl, rfl, by decide +kernel, rfl, by decide +kernel, by decide +kernel⟩
theorem hs_looked (T : Tx w K mg) (D : Dn K mg "looked" s_looked f) (hi_Look : Hi P w K mg base CX0 1 (cLk K) ["self"] (spLInit K)) (hm_Look_go0 : ∀ n, Hm P w K mg base CX0 (4 + n + 1) (cLk K) "go" ["self", "formula", "bound", "deep"] (spGo K n)) :
    Hs P w K mg base CX0 46 "looked" ["formula"] (spLooked K) := by
  have hm_Look_go := hm_Look_go0 40
  refine Hs.of D sc_looked (fun vs H Q E h => ?_) (fun _ _ _ _ _ _ us hl => match us, hl with | [_], _ => rfl) (fun cdv A outer s H vs Q E hr h => ?_)
  · obtain ⟨f, v, s0, rfl, _⟩ := h
    rfl
  obtain ⟨f, v, s0, rfl, hf, wf, hp, hd, q⟩ := h
  refine ⟨_, PSs.nox (pss_cons (ps_set (i := 1) sc_looked.nd rfl (by first | exact Or.inl rfl | exact Or.inr rfl) (pe_mk0 hi_Look (hr.mono (by omega)) rfl T.gLook pass0))
      (pss_cons (ps_expr (pe_mt hm_Look_go (hr.mono (by omega)) (pv 1) T.cLook pass0 (pa_cons (pv 0) (pa_cons pe_dnewK (pa_cons pe_int pa_nil)))))
      (pss_one (ps_ret (pv 1))))), ?_⟩
  intro x dx hx hdx hne
  have x1 : Ext [] H (upd H dx (.own x)) := .new hdx
  have hx1 : upd H dx (.own x) x = none := (upd_ne hne.symm).trans hx
  have x2 : Ext [] H (upd (upd H dx (.own x)) x (.ins (cLk K) dx [])) := x1.add hx1
  refine ⟨x, dx, rfl, upd_same, fun d hd' H' eH' => ⟨rfl, ?_⟩⟩
  have x3 : Ext [] H (upd (upd (upd H dx (.own x)) x (.ins (cLk K) dx [])) x (.ins (cLk K) dx [("count", .int 0)])) := x2.mut hx
  have x4 := x3.add (o := .dK []) (p := d) (by
    rw [upd_ne (ne_of_none (o := .ins (cLk K) dx []) upd_same hd').symm]; exact hd')
  have x5 := x4.mut (o := .ins (cLk K) dx [("count", .int 0), ("found", .ref d)]) hx
  rw [← eH'] at x5
  have hxd : d ≠ x := (ne_of_none (o := .ins (cLk K) dx []) upd_same hd').symm
  have L : Lk K H' x dx d 0 [] := ⟨by rw [eH']; exact upd_same, by rw [eH', upd_ne hxd]; exact upd_same⟩
  refine ⟨_, rfl, _, _, _, rfl, L.at_, rfl, _, rfl, fun bd hbd => ?_⟩
  have x6 := x5.add (o := .dK []) hbd
  have e6 : Ext [] H' (upd H' bd (.dK [])) := .new hbd
  refine ⟨_, _, _, 1, _, _, _, _, _, fun _ => none, s0, f, rfl, Rp.ext x6 f hf, wf, hd, ⟨e6.get0 L.at_, e6.get0 L.fd⟩, upd_same, (ne_of_none L.fd hbd).symm, fun nm => rfl, fun nm v z => (by cases z), Nat.le_refl _, Nat.zero_le _, by omega, by omega, fun H7 kvs7 e7 L7 _ _ => ?_⟩
  refine ⟨_, rfl, q _ _ (x6.late e7 fun a m => ?_)⟩
  simp only [List.mem_cons, List.not_mem_nil, or_false] at m
  rcases m with e | e
  · rw [e]; exact hx
  · rw [e]; exact x2.free d hd'
def spCheck (K : PySem.W.Frag) : L2.Sp := fun vs H Q _ => ∃ f v s0, vs = [v] ∧ Rp K H f v ∧ Wf s0 (fun _ => none) f ∧ pt f ≤ 2000 ∧ dp f ≤ 40 ∧ ∀ H', Ext [] H H' → Q .non H'
theorem sc_check_formula : FnScope ["formula"] ["formula"] (defScope s_check_formula) := ⟨rfl, rfl, rfl, by decide +kernel, rfl, by decide +kernel, by decide +kernel⟩
theorem hs_check_formula (T : Tx w K mg) (D : Dn K mg "check_formula" s_check_formula f) (h_looked : Hs P w K mg base CX0 46 "looked" ["formula"] (spLooked K)) : Hs P w K mg base CX0 47 "check_formula" ["formula"] (spCheck K) := by
  refine Hs.of D sc_check_formula (fun vs H Q E h => ?_) (fun _ _ _ _ _ _ us hl => match us, hl with | [_], _ => rfl) (fun cdv A outer s H vs Q E hr h => ?_)
  · obtain ⟨f, v, s0, rfl, _⟩ := h
    rfl
  obtain ⟨f, v, s0, rfl, hf, wf, hp, hd, q⟩ := h
  refine ⟨_, PSs.nox (pss_one (ps_expr (pe_h h_looked (hr.mono (by omega)) rfl pass0 (pa_cons (pv 0) pa_nil)))), ?_⟩
  exact ⟨_, rfl, _, _, _, rfl, hf, wf, hp, hd, fun H' v' e => q H' e⟩
end
end Say
set_option maxRecDepth 100000
set_option maxHeartbeats 4000000
/-! all names; new names; names anew -/
namespace Say
open PySem PySem.Spec PyProof.Rows L2 Fm
section
variable {P : Program} {w : World} {K : PySem.W.Frag} {mg : Str → Option Value} {base : Heap} {f : Addr} {B : Nat}
def TxL (w : World) (H : Hp) (a : Addr) (L : List Str) : Prop := ∃ c S, H a = some (TxO w a S c) ∧ ∀ z, S z = true ↔ z ∈ L
theorem TxL.get {H H1 : Hp} {a : Addr} {L : List Str} {S : List Addr} (h : TxL w H a L) (x : Ext S H H1) (n : a ∉ S) : TxL w H1 a L := by
  obtain ⟨c, F, e, q⟩ := h
  exact ⟨c, F, x.get e n, q⟩
theorem TxL.congr {H : Hp} {a : Addr} {L L' : List Str} (h : TxL w H a L) (e : ∀ z, z ∈ L ↔ z ∈ L') : TxL w H a L' := by
  obtain ⟨c, F, h, q⟩ := h
  exact ⟨c, F, h, fun z => (q z).trans (e z)⟩
theorem TxL.ne {H : Hp} {a p : Addr} {L : List Str} (h : TxL w H a L) (e : H p = none) : a ≠ p := by
  obtain ⟨c, F, h, q⟩ := h
  exact ne_of_none h e
theorem ans_app : ∀ {a b : List Fm}, ans (a ++ b) = ans a ++ ans b
  | [], b => rfl
  | f :: a, b => by
    show an f ++ ans (a ++ b) = (an f ++ ans a) ++ ans b
    rw [ans_app, List.append_assoc]
/-- one more text into the set -/
theorem txl_new {a : Addr} {H : Hp} {L : List Str} {k : Str} {c : Nat} {S : Str → Bool} (e : H a = some (TxO w a S c)) (hS : ∀ z, S z = true ↔ z ∈ L) :
    Ext [a] H (upd H a (TxO w a (fun j => S j || decide (j = k)) (if S k = true then c else c + 1))) ∧ TxL w (upd H a (TxO w a (fun j => S j || decide (j = k)) (if S k = true then c else c + 1))) a (L ++ [k]) := by
  refine ⟨Ext.put .refl (by simp) e rfl, _, _, upd_same, fun z => ?_⟩
  rw [Bool.or_eq_true, decide_eq_true_eq, hS z, List.mem_append, List.mem_singleton]
theorem wf_own {s0 : Str → Nat} {b : Str → Option Nat} {f : Fm} (h : Wf s0 b f) : (ownA f).length ≤ 8 ∧ (ownV f).length ≤ 8 := by
  cases f with
  | rel nm args => exact ⟨Nat.le_trans h.2.2.1 (by decide), Nat.zero_le _⟩
  | cmp c x y => exact ⟨by show 2 ≤ 8; decide, Nat.zero_le _⟩
  | neg g => exact ⟨Nat.zero_le _, Nat.zero_le _⟩
  | jn c fs => exact ⟨Nat.zero_le _, Nat.zero_le _⟩
  | qu c vs g => exact ⟨Nat.zero_le _, Nat.le_trans h.1.2.2.1 (by decide)⟩
  | fx l m vs g args =>
    have h1 := h.2.1.2.2.1
    have h2 := h.2.2.1.1
    refine ⟨?_, ?_⟩
    · show args.length ≤ 8; omega
    · show vs.length ≤ 8; omega
  | tc vs g args =>
    have h1 := h.1.2.2.1
    have h2 := h.2.1.1
    refine ⟨?_, ?_⟩
    · show args.length ≤ 8; omega
    · show vs.length ≤ 8; omega
  | gs m ar g => exact ⟨Nat.zero_le _, Nat.zero_le _⟩
theorem wf_kid {s0 : Str → Nat} {b : Str → Option Nat} {f g : Fm} (h : Wf s0 b f) (hg : g ∈ kids f) : ∃ b', Wf s0 b' g := by
  cases f with
  | rel nm args => cases hg
  | cmp c x y => cases hg
  | neg g0 => rw [List.mem_singleton.mp hg]; exact ⟨_, h⟩
  | jn c fs => exact ⟨_, wfs_all.mp h.2 g hg⟩
  | qu c vs g0 => rw [List.mem_singleton.mp hg]; exact ⟨_, h.2⟩
  | fx l m vs g0 args => rw [List.mem_singleton.mp hg]; exact ⟨_, h.2.2.2.1⟩
  | tc vs g0 args => rw [List.mem_singleton.mp hg]; exact ⟨_, h.2.2⟩
  | gs m ar g0 => rw [List.mem_singleton.mp hg]; exact ⟨_, h.2.2⟩
theorem wd_rel' {f : Fm} (h : ∀ nm args, f ≠ rel nm args) : decide (V.str (wd f) = V.str "rel") = false := by
  rw [wd_eq "rel" 0 (by decide +kernel)]
  cases f with
  | rel nm args => exact absurd rfl (h nm args)
  | cmp c _ _ => cases c <;> rfl
  | jn c _ => cases c <;> rfl
  | qu c _ _ => cases c <;> rfl
  | fx c _ _ _ _ => cases c <;> rfl
  | _ => rfl
def spAll (K : PySem.W.Frag) (n : Nat) : L2.Sp := fun vs H Q _ => ∃ f v, ∃ A : List Str, ∃ s0 b, vs = [v] ∧ Rp K H f v ∧ Wf s0 b f ∧ dp f ≤ n ∧ A.length ≤ 63 ∧ (∀ x ∈ an f, x ∈ A) ∧
  ∀ ys p H', Ext [] H H' → H' p = some (.lst (sv ys)) → H p = none → ys.Nodup → (∀ z, z ∈ ys ↔ z ∈ an f) → Q (.ref p) H'
theorem sc_all_names : FnScope ["formula", "found", "own", "part", "name"] ["formula"] (defScope s_all_names) := ⟨rfl, rfl, rfl, by decide +kernel, rfl, by decide +kernel, by decide +kernel⟩
theorem hs_all_names (T : Tx w K mg) (D : Dn K mg "all_names" s_all_names f) (h_own_name : Hs P w K mg base CX0 1 "own_name" ["formula"] (spOwnN K)) (h_inner : Hs P w K mg base CX0 1 "inner" ["formula"] (spInner K))
    (h_own_arguments : Hs P w K mg base CX0 1 "own_arguments" ["formula"] (spOwnA K)) (h_own_variables : Hs P w K mg base CX0 1 "own_variables" ["formula"] (spOwnV K)) :
    ∀ n, Hs P w K mg base CX0 (1 + n + 1) "all_names" ["formula"] (spAll K n) := by
  intro n
  induction n with
  | zero =>
    refine Hs.of D sc_all_names (fun vs H Q E h => ?_) (fun _ _ _ _ _ _ us hl => match us, hl with | [_], _ => rfl) (fun cdv A outer s H vs Q E hr h => ?_)
    · obtain ⟨f, v, A, s0, b, rfl, _⟩ := h
      rfl
    obtain ⟨f, v, A, s0, b, rfl, _, _, h, _⟩ := h
    exact absurd (dp_pos f) (by omega)
  | succ n ih =>
    have h_all_names := ih
    refine Hs.of D sc_all_names (fun vs H Q E h => ?_) (fun _ _ _ _ _ _ us hl => match us, hl with | [_], _ => rfl) (fun cdv A0 outer s H vs Q E hr h => ?_)
    · obtain ⟨f, v, A, s0, b, rfl, _⟩ := h
      rfl
    obtain ⟨f, v, A, s0, b, rfl, hf, wf, hn, hA, hAn, q⟩ := h
    refine ⟨_, PSs.nox (pss_cons (ps_set (i := 1) sc_all_names.nd rfl (by first | exact Or.inl rfl | exact Or.inr rfl) (pe_callTy (cr_setT rfl) (by rfl) T.zset (by decide +kernel) (pa_cons (pe_op op_catS (pe_h h_own_arguments (hr.mono (by omega)) rfl pass0 (pa_cons (pv 0) pa_nil)) (pe_h h_own_variables (hr.mono (by omega)) rfl pass0 (pa_cons (pv 0) pa_nil))) pa_nil)))
      (pss_cons (ps_set (i := 2) sc_all_names.nd rfl (by first | exact Or.inl rfl | exact Or.inr rfl) (pe_h h_own_name (hr.mono (by omega)) rfl pass0 (pa_cons (pv 0) pa_nil)))
      (pss_cons (ps_if (pt_cmpR op_notN (pv 2) pe_non (nomark _)) (pss_one (ps_expr (pe_txadd (pv 1) (pa_cons (pe_ix ix_tup (pv 2) pe_int (fun _ _ => rfl)) pa_nil)))) pss_nil)
      (pss_cons (ps_if (pt_cmpR op_eq (pe_ix ix_tup (pv 0) pe_int (fun _ _ => rfl)) pe_str (nomark _)) (pss_one (ps_expr (pe_txadd (pv 1) (pa_cons (pe_ix ix_tup (pv 0) pe_int (fun _ _ => rfl)) pa_nil)))) pss_nil)
      (pss_cons (ps_for PassesOwn.never rfl (pi_tup (pe_h h_inner (hr.mono (by omega)) rfl pass0 (pa_cons (pv 0) pa_nil))) (pg_name (i := 3) sc_all_names.nd rfl (by first | exact Or.inl rfl | exact Or.inr rfl)) (pss_one (ps_for PassesOwn.never rfl (pi_list (pe_h h_all_names (hr.mono (by omega)) rfl pass0 (pa_cons (pv 3) pa_nil))) (pg_name (i := 4) sc_all_names.nd rfl (by first | exact Or.inl rfl | exact Or.inr rfl)) (pss_one (ps_expr (pe_txadd (pv 1) (pa_cons (pv 4) pa_nil)))))))
      (pss_one (ps_ret (pe_callB (cr_sortedTx rfl) (by rfl) T.zsorted (by decide +kernel) (pa_cons (pv 1) pa_nil))))))))), ?_⟩
    obtain ⟨w1, w2⟩ := wf_own wf
    have ak := fun x => an_kids f x
    refine ⟨_, rfl, _, _, rfl, hf, fun p1 H1 e1 h1 => ?_⟩
    refine ⟨_, rfl, _, _, rfl, Rp.ext e1 f hf, fun p2 H2 e2 h2 => ?_⟩
    refine ⟨_, _, _, _, rfl, rfl, e2.tup h1, h2, by omega, fun p3 H3 e3 h3 => ?_⟩
    have E3 := e1.trans (e2.trans e3)
    refine ⟨p3, ownA f ++ ownV f, rfl, h3, by rw [List.length_append]; omega, fun ps c hc hps => ?_⟩
    have E4 : Ext [] H (upd H3 ps (TxO w ps (fun z => (ownA f ++ ownV f).contains z) c)) := E3.add hps
    have T4 : TxL w (upd H3 ps (TxO w ps (fun z => (ownA f ++ ownV f).contains z) c)) ps (ownA f ++ ownV f) := ⟨c, _, upd_same, fun z => List.contains_iff_mem⟩
    have hps0 : H ps = none := E3.free ps hps
    by_cases hrel : ∃ m args, f = rel m args
    · obtain ⟨m, args, rfl⟩ := hrel
      obtain ⟨a, b2, rfl, k1, k2⟩ := hf
      have hf : Rp K H (rel m args) (.ref a) := ⟨a, b2, rfl, k1, k2⟩
      refine ⟨_, rfl, _, _, rfl, Rp.ext E4 _ hf, fun ow => ?_, fun m k ow => by cases ow⟩
      refine ⟨_, rfl, rfl, _, rfl, ifF rfl ?_⟩
      have k1' := E4.tup k1
      refine ⟨_, rfl, _, _, _, _, rfl, rfl, k1', rfl, rfl, _, rfl, ifT (decide_eq_true rfl) ?_⟩
      obtain ⟨c9, S9, h9, hS9⟩ := T4
      refine ⟨_, rfl, ⟨_, _, _, rfl, h9⟩, _, rfl, _, _, _, _, rfl, rfl, k1', rfl, _, _, S9, c9, rfl, rfl, h9, ⟨A, by omega, fun z hz => hAn z ((ak z).mpr ((List.mem_append.mp ((hS9 z).mp hz)).imp id .inl))⟩, ?_⟩
      obtain ⟨e5, T5⟩ := txl_new (k := m) h9 hS9
      have E5 := E4.late e5 (by simpa using hps0)
      refine ⟨_, rfl, _, _, rfl, Rp.ext E5 _ hf, fun p2 us H6 e6 hp2 hs2 => ?_⟩
      refine ⟨_, rfl, ⟨_, hp2⟩, for_parts hp2 hs2 (S := []) (fun dn σ H' => (∃ o1 o2, σ = [some (.ref a), some (.ref ps), some .non, o1, o2]) ∧ H' = H6) ⟨⟨_, _, rfl⟩, rfl⟩ (fun _ _ _ z => by rw [z.2]; exact .refl)
        (fun dn x1 r u σ H' hk hx z => ?_) (fun σ H' ⟨⟨o1, o2, e⟩, e3⟩ => ?_)⟩
      · have hk : ([] : List Fm) = dn ++ x1 :: r := hk
        simp at hk
      · subst e e3
        obtain ⟨c9, S9, h9, hS9⟩ := T5.get e6 (by simp)
        have hm : ∀ z, z ∈ ownA (rel m args) ++ ownV (rel m args) ++ [m] ↔ z ∈ an (rel m args) := fun z => by simp [ownA, ownV, an]
        refine ⟨_, rfl, _, _, _, rfl, h9, ⟨A, hA, fun z hz => hAn z ((hm z).mp ((hS9 z).mp hz))⟩, fun ys p nd hm9 hl hp => ?_⟩
        exact q ys p _ ((E5.trans e6).add hp) upd_same ((E5.trans e6).free p hp) nd fun z => by rw [hm9 z, hS9 z]; exact hm z
    have hrel : ∀ m args, f ≠ rel m args := fun m args e => hrel ⟨m, args, e⟩
    obtain ⟨a, xs, rfl, hat⟩ := Rp.at f hf
    refine ⟨_, rfl, _, _, rfl, Rp.ext E4 f hf, fun ow => ?_, fun m k ow p H5 e5 hp => ?_⟩
    · have hm : ∀ z, (z ∈ ownA f ++ ownV f ∨ z ∈ ans (kids f)) ↔ z ∈ an f := fun z => by
        rw [ak z, ow, List.mem_append, or_assoc]
        constructor
        · rintro (h | h | h)
          · exact .inl h
          · exact .inr (.inl h)
          · exact .inr (.inr (.inr (.inr h)))
        · rintro (h | h | ⟨p, h, _⟩ | ⟨nm, args, h, _⟩ | h)
          · exact .inl h
          · exact .inr (.inl h)
          · cases h
          · exact absurd h (hrel nm args)
          · exact .inr (.inr h)
      refine ⟨_, rfl, rfl, _, rfl, ifF rfl ?_⟩
      refine ⟨_, rfl, _, _, _, _, rfl, rfl, E4.tup hat, at_zero, rfl, _, rfl, ifF (wd_rel' hrel) ?_⟩
      refine ⟨_, rfl, _, _, rfl, Rp.ext E4 f hf, fun p2 us H6 e6 hp2 hs2 => ?_⟩
      have T6 : TxL w H6 ps (ownA f ++ ownV f) := T4.get e6 (by simp)
      refine ⟨_, rfl, ⟨_, hp2⟩, for_parts hp2 hs2 (S := [ps]) (fun dn σ H' => (∃ o1 o2, σ = [some (.ref a), some (.ref ps), some (.non), o1, o2]) ∧ Ext [ps] H6 H' ∧ TxL w H' ps ((ownA f ++ ownV f) ++ ans dn)) ⟨⟨_, _, rfl⟩, .refl, T6.congr fun z => by simp [ans]⟩ (fun _ _ _ z => z.2.1)
        (fun dn x1 r u σ H' hk hx ⟨⟨o1, o2, e⟩, e3, T7⟩ => ?_) (fun σ H' ⟨⟨o1, o2, e⟩, e3, T7⟩ => ?_)⟩
      · subst e
        have hxk : x1 ∈ kids f := by rw [hk]; simp
        have hdp1 := dp_kid hxk
        obtain ⟨b', wf'⟩ := wf_kid wf hxk
        have hdn : ∀ z, z ∈ (ownA f ++ ownV f) ++ ans dn → z ∈ A := fun z hz => hAn z ((hm z).mp ((List.mem_append.mp hz).imp id fun m => by
          obtain ⟨g, hg, mg⟩ := mem_ans.mp m
          exact mem_ans.mpr ⟨g, by rw [hk]; exact List.mem_append_left _ hg, mg⟩))
        have hx1 : ∀ z, z ∈ an x1 → z ∈ A := fun z hz => hAn z ((hm z).mp (.inr (mem_ans.mpr ⟨x1, hxk, hz⟩)))
        refine ⟨_, rfl, x1, _, A, s0, b', rfl, hx, wf', by omega, hA, hx1, fun ys pq H8 e8 hp8 hp0 nd8 hm8 => ?_⟩
        have hne : pq ≠ ps := (T7.ne hp0).symm
        refine ⟨_, rfl, ⟨_, .inl (.inl hp8)⟩, for_list (xs := sv ys) (fun i σ H' => (∃ o2, σ = [some (.ref a), some (.ref ps), some (.non), some u, o2]) ∧ Ext [ps] H8 H' ∧ TxL w H' ps ((ownA f ++ ownV f) ++ ans dn ++ ys.take i)) ⟨⟨_, rfl⟩, .refl, (T7.get e8 (by simp)).congr fun z => by simp⟩
          (fun i σ H' _ z => z.2.1.lst (.inl (.inl hp8)) (by simpa using hne)) (fun i y σ H' hy ⟨⟨o2, e⟩, e9, T9⟩ => ?_) (fun σ H' ⟨⟨o2, e⟩, e9, T9⟩ => ?_)⟩
        · subst e
          rw [List.getElem?_map] at hy
          obtain ⟨y0, hy0, rfl⟩ := Option.map_eq_some_iff.mp hy
          obtain ⟨c9, S9, h9, hS9⟩ := T9
          refine ⟨_, rfl, ⟨_, _, _, rfl, h9⟩, _, rfl, _, _, S9, c9, rfl, rfl, h9, ⟨A, by omega, fun z hz => ?_⟩, ⟨_, rfl⟩, e9.trans (txl_new h9 hS9).1, (txl_new h9 hS9).2.congr fun z => ?_⟩
          · rcases List.mem_append.mp ((hS9 z).mp hz) with m | m
            · exact hdn z m
            · exact hx1 z ((hm8 z).mp (List.mem_of_mem_take m))
          · rw [(take_step hy0).1]
            simp [or_assoc]
        · subst e
          refine ⟨⟨_, _, rfl⟩, (e3.trans e8.any).trans e9, T9.congr fun z => ?_⟩
          rw [List.length_map, List.take_length, ans_app]
          simp [ans, or_assoc, hm8 z]
      · subst e
        obtain ⟨c9, S9, h9, hS9⟩ := T7
        have e7 : Ext [] H H' := (E4.trans e6).late e3 (by simpa using hps0)
        refine ⟨_, rfl, _, _, _, rfl, h9, ⟨A, hA, fun z hz => hAn z ((hm z).mp (List.mem_append.mp ((hS9 z).mp hz)))⟩, fun ys p nd hm9 hl hp => ?_⟩
        exact q ys p _ (e7.add hp) upd_same (e7.free p hp) nd fun z => by rw [hm9 z, hS9 z, List.mem_append]; exact hm z
    · have hm : ∀ z, (z ∈ ownA f ++ ownV f ++ [m] ∨ z ∈ ans (kids f)) ↔ z ∈ an f := fun z => by
        rw [ak z, ow, List.mem_append, List.mem_append, List.mem_singleton, or_assoc, or_assoc]
        constructor
        · rintro (h | h | h | h)
          · exact .inl h
          · exact .inr (.inl h)
          · exact .inr (.inr (.inl ⟨_, rfl, h.symm⟩))
          · exact .inr (.inr (.inr (.inr h)))
        · rintro (h | h | ⟨p, h, e⟩ | ⟨nm, args, h, _⟩ | h)
          · exact .inl h
          · exact .inr (.inl h)
          · cases h
            exact .inr (.inr (.inl e.symm))
          · exact absurd h (hrel nm args)
          · exact .inr (.inr (.inr h))
      refine ⟨_, rfl, rfl, _, rfl, ifT rfl ?_⟩
      obtain ⟨c8, S8, h8, hS8⟩ := T4.get e5 (by simp)
      refine ⟨_, rfl, ⟨_, _, _, rfl, h8⟩, _, rfl, _, _, _, _, rfl, rfl, hp, rfl, _, _, S8, c8, rfl, rfl, h8, ⟨A, by omega, fun z hz => hAn z ((hm z).mp (.inl (List.mem_append_left _ ((hS8 z).mp hz))))⟩, ?_⟩
      obtain ⟨e5b, T5⟩ := txl_new (k := m) h8 hS8
      have E5 := (E4.trans e5).late e5b (by simpa using hps0)
      refine ⟨_, rfl, _, _, _, _, rfl, rfl, E5.tup hat, at_zero, rfl, _, rfl, ifF (wd_rel' hrel) ?_⟩
      refine ⟨_, rfl, _, _, rfl, Rp.ext E5 f hf, fun p2 us H6 e6 hp2 hs2 => ?_⟩
      have T6 : TxL w H6 ps (ownA f ++ ownV f ++ [m]) := T5.get e6 (by simp)
      refine ⟨_, rfl, ⟨_, hp2⟩, for_parts hp2 hs2 (S := [ps]) (fun dn σ H' => (∃ o1 o2, σ = [some (.ref a), some (.ref ps), some (.ref p), o1, o2]) ∧ Ext [ps] H6 H' ∧ TxL w H' ps ((ownA f ++ ownV f ++ [m]) ++ ans dn)) ⟨⟨_, _, rfl⟩, .refl, T6.congr fun z => by simp [ans]⟩ (fun _ _ _ z => z.2.1)
        (fun dn x1 r u σ H' hk hx ⟨⟨o1, o2, e⟩, e3, T7⟩ => ?_) (fun σ H' ⟨⟨o1, o2, e⟩, e3, T7⟩ => ?_)⟩
      · subst e
        have hxk : x1 ∈ kids f := by rw [hk]; simp
        have hdp1 := dp_kid hxk
        obtain ⟨b', wf'⟩ := wf_kid wf hxk
        have hdn : ∀ z, z ∈ (ownA f ++ ownV f ++ [m]) ++ ans dn → z ∈ A := fun z hz => hAn z ((hm z).mp ((List.mem_append.mp hz).imp id fun m => by
          obtain ⟨g, hg, mg⟩ := mem_ans.mp m
          exact mem_ans.mpr ⟨g, by rw [hk]; exact List.mem_append_left _ hg, mg⟩))
        have hx1 : ∀ z, z ∈ an x1 → z ∈ A := fun z hz => hAn z ((hm z).mp (.inr (mem_ans.mpr ⟨x1, hxk, hz⟩)))
        refine ⟨_, rfl, x1, _, A, s0, b', rfl, hx, wf', by omega, hA, hx1, fun ys pq H8 e8 hp8 hp0 nd8 hm8 => ?_⟩
        have hne : pq ≠ ps := (T7.ne hp0).symm
        refine ⟨_, rfl, ⟨_, .inl (.inl hp8)⟩, for_list (xs := sv ys) (fun i σ H' => (∃ o2, σ = [some (.ref a), some (.ref ps), some (.ref p), some u, o2]) ∧ Ext [ps] H8 H' ∧ TxL w H' ps ((ownA f ++ ownV f ++ [m]) ++ ans dn ++ ys.take i)) ⟨⟨_, rfl⟩, .refl, (T7.get e8 (by simp)).congr fun z => by simp⟩
          (fun i σ H' _ z => z.2.1.lst (.inl (.inl hp8)) (by simpa using hne)) (fun i y σ H' hy ⟨⟨o2, e⟩, e9, T9⟩ => ?_) (fun σ H' ⟨⟨o2, e⟩, e9, T9⟩ => ?_)⟩
        · subst e
          rw [List.getElem?_map] at hy
          obtain ⟨y0, hy0, rfl⟩ := Option.map_eq_some_iff.mp hy
          obtain ⟨c9, S9, h9, hS9⟩ := T9
          refine ⟨_, rfl, ⟨_, _, _, rfl, h9⟩, _, rfl, _, _, S9, c9, rfl, rfl, h9, ⟨A, by omega, fun z hz => ?_⟩, ⟨_, rfl⟩, e9.trans (txl_new h9 hS9).1, (txl_new h9 hS9).2.congr fun z => ?_⟩
          · rcases List.mem_append.mp ((hS9 z).mp hz) with m | m
            · exact hdn z m
            · exact hx1 z ((hm8 z).mp (List.mem_of_mem_take m))
          · rw [(take_step hy0).1]
            simp [or_assoc]
        · subst e
          refine ⟨⟨_, _, rfl⟩, (e3.trans e8.any).trans e9, T9.congr fun z => ?_⟩
          rw [List.length_map, List.take_length, ans_app]
          simp [ans, or_assoc, hm8 z]
      · subst e
        obtain ⟨c9, S9, h9, hS9⟩ := T7
        have e7 : Ext [] H H' := (E5.trans e6).late e3 (by simpa using hps0)
        refine ⟨_, rfl, _, _, _, rfl, h9, ⟨A, hA, fun z hz => hAn z ((hm z).mp (List.mem_append.mp ((hS9 z).mp hz)))⟩, fun ys p nd hm9 hl hp => ?_⟩
        exact q ys p _ (e7.add hp) upd_same (e7.free p hp) nd fun z => by rw [hm9 z, hS9 z, List.mem_append]; exact hm z
end
end Say
set_option maxRecDepth 100000
set_option maxHeartbeats 4000000
/-! new names; names anew -/
namespace Say
open PySem PySem.Spec PyProof.Rows L2 Fm
def uN (n : Nat) : Str := (Str.empty ++ ("u" : Str)) ++ (toString ((n : Nat) : Int) : Str)
theorem uN_ok : ∀ n, n < 100 → nmOk (uN n) := by decide +kernel
theorem uN_nd : ((List.range 100).map uN).Nodup := by decide +kernel
theorem uN_few {U : List Str} {m : Nat} (h : ∀ j, 1 ≤ j → j ≤ m → uN j ∈ U) (hU : U.length ≤ 60) : m ≤ U.length := by
  rcases Nat.lt_or_ge U.length m with hlt | hge
  · exfalso
    have nd : ((((List.range 100).map uN).drop 1).take (U.length + 1)).Nodup := uN_nd.sublist ((List.take_sublist _ _).trans (List.drop_sublist _ _))
    have q := nodup_len nd (m := U) fun x hx => by
      obtain ⟨i, hi, e⟩ := List.mem_iff_getElem.mp hx
      simp only [List.length_take, List.length_drop, List.length_map, List.length_range] at hi
      rw [List.getElem_take, List.getElem_drop, List.getElem_map, List.getElem_range] at e
      rw [← e]
      exact h _ (by omega) (by omega)
    simp only [List.length_take, List.length_drop, List.length_map, List.length_range] at q
    omega
  · exact hge
section
theorem dc_list {K : PySem.W.Frag} {a : Addr} {xs : List V} {g : TG} {tt : TT} {tk tv : TE} {vs : List Nat} {σ : L2.St} {H1 : Hp} {D : Addr} {Qd : Hp → Prop} (Pv : Nat → Hp → Prop) (h0 : Pv 0 (upd H1 D (.dK []))) (hl : ∀ i H, i ≤ xs.length → Pv i H → SqL K H a xs)
    (hs : ∀ i x H, xs[i]? = some x → Pv i H → g x (wipe σ vs) H fun σ2 H2 => wipe σ2 vs = wipe σ vs ∧ tt σ2 H2 fun b H3 =>
      if b = true then tk σ2 H3 fun y H4 => tv σ2 H4 fun z H5 => ∃ kvs k, y = kV k ∧ H5 D = some (.dK kvs) ∧ kvs.length < sizeLine ∧ Pv (i + 1) (upd H5 D (.dK (putK kvs k z))) else Pv (i + 1) H3) (hd : ∀ H, Pv xs.length H → Qd H) :
    ∃ W : Nat → Nat → Hp → Prop, (∃ m, W 0 m (upd H1 D (.dK []))) ∧ ∀ i m H, W i m H →
      ((Itl K a).stop i H ∧ Qd H) ∨ ((Itl K a).go i H ∧ ∃ Nx : Hp → Prop, (∀ H', Nx H' → ∃ m', m' < m ∧ W (i + 1) m' H') ∧ ∀ x H', (Itl K a).yld i H x H' → g x (wipe σ vs) H' fun σ2 H2 => wipe σ2 vs = wipe σ vs ∧ tt σ2 H2 fun b H3 =>
        if b = true then tk σ2 H3 fun y H4 => tv σ2 H4 fun z H5 => ∃ kvs k, y = kV k ∧ H5 D = some (.dK kvs) ∧ kvs.length < sizeLine ∧ Nx (upd H5 D (.dK (putK kvs k z))) else Nx H3) := by
  refine ⟨fun i m H => m = xs.length - i ∧ i ≤ xs.length ∧ Pv i H, ⟨xs.length, by simp, Nat.zero_le _, h0⟩, ?_⟩
  rintro i m H ⟨rfl, hi, p⟩
  have q := hl i H hi p
  by_cases hlt : i < xs.length
  · refine .inr ⟨⟨xs, xs[i], q, by simp [hlt]⟩, Pv (i + 1), fun H' p' => ⟨xs.length - (i + 1), by omega, rfl, hlt, p'⟩, fun x H' y => ?_⟩
    obtain ⟨e, y⟩ := y
    subst e
    exact hs i x _ (y xs q) p
  · have e : i = xs.length := by omega
    subst e
    exact .inl ⟨⟨xs, q, Nat.le_refl _⟩, hd H p⟩
end
section
variable {P : Program} {w : World} {K : PySem.W.Frag} {mg : Str → Option Value} {base : Heap} {f : Addr} {B : Nat}
abbrev cFr (K : PySem.W.Frag) : Addr := He.ga K "Fresh"
structure Fr (K : PySem.W.Frag) (H : Hp) (fr dx d : Addr) (m : Nat) (kvs : List (Key × V)) (U : List Str) : Prop where
  at_ : H fr = some (.ins (cFr K) dx [("used", .ref d), ("number", .int (m : Nat))])
  fd : H d = some (.dK kvs)
  us : ∀ z, (valV kvs (Sum.inr z)).isSome = true ↔ z ∈ U
  len : kvs.length ≤ U.length
  nums : ∀ j, 1 ≤ j → j ≤ m → uN j ∈ U
theorem Fr.get {H H1 : Hp} {fr dx d : Addr} {m : Nat} {kvs : List (Key × V)} {U : List Str} {S : List Addr} (F : Fr K H fr dx d m kvs U) (x : Ext S H H1) (h1 : fr ∉ S) (h2 : d ∉ S) : Fr K H1 fr dx d m kvs U :=
  ⟨x.get F.at_ h1, x.get F.fd h2, F.us, F.len, F.nums⟩
theorem Fr.get0 {H H1 : Hp} {fr dx d : Addr} {m : Nat} {kvs : List (Key × V)} {U : List Str} (F : Fr K H fr dx d m kvs U) (x : Ext [] H H1) : Fr K H1 fr dx d m kvs U := F.get x (by simp) (by simp)
theorem Fr.ne {H : Hp} {fr dx d : Addr} {m : Nat} {kvs : List (Key × V)} {U : List Str} (F : Fr K H fr dx d m kvs U) : fr ≠ d := ne_of F.at_ F.fd (by intro z; cases z)
def spFInit (K : PySem.W.Frag) : L2.Sp := fun vs H Q _ => ∃ x dx l, ∃ ys : List Str, vs = [.ref x, .ref l] ∧ H x = some (.ins (cFr K) dx []) ∧ H l = some (.lst (sv ys)) ∧ ys.Nodup ∧ ys.length ≤ 1000 ∧
  ∀ d H' kvs, Ext [x] H H' → H d = none → Fr K H' x dx d 0 kvs ys → Q .non H'
theorem sc_Fresh_init : FnScope ["self", "used", "name"] ["self", "used"] (defScope s_Fresh_init) := ⟨rfl, rfl, rfl, by decide +kernel, rfl, by decide +kernel, by decide +kernel⟩
theorem hi_Fresh_of (T : Tx w K mg) (D : Di K (cFr K) "Fresh.__init__" s_Fresh_init f) : Hi P w K mg base CX0 1 (cFr K) ["self", "used"] (spFInit K) := by
  refine Hi.of D sc_Fresh_init (fun vs H Q E h => ?_) (fun _ _ _ _ _ _ us hl => match us, hl with | [_, _], _ => rfl) (fun cdv A outer s H vs Q E hr h => ?_)
  · obtain ⟨x, dx, l, ys, rfl, _⟩ := h
    rfl
  obtain ⟨x, dx, l, ys, rfl, hx, hl, nd, hz, q⟩ := h
  refine ⟨_, PSs.nox (pss_cons (ps_fld (pv 0) (pe_dc (own := [("name", 2)]) (g := gName 2) rfl sc_Fresh_init.nd (pi_list (pv 1)) (blkOk_by (own := [("name", 2)]) (N := ["self", "used", "name"]) (sc := defScope s_Fresh_init) (by decide +kernel)) (fun _ _ _ _ _ => pg_name (i := 2) sc_Fresh_init.nd rfl (Or.inl rfl)) (fun _ _ _ _ _ => pts_nil) (fun _ _ _ _ _ => (pv 2)) (fun _ _ _ _ _ => pe_bl)) rfl)
      (pss_one (ps_fld (pv 0) pe_int rfl))), ?_⟩
  refine ⟨_, rfl, l, rfl, ⟨_, .inl (.inl hl)⟩, fun d hd => ?_⟩
  refine dc_list (xs := sv ys) (fun i H' => ∃ kvs, H' d = some (.dK kvs) ∧ kvs.length ≤ i ∧ Ext [] H H' ∧ ∀ z, (valV kvs (Sum.inr z)).isSome = true ↔ z ∈ ys.take i) ⟨[], upd_same, Nat.le_refl _, .new hd, fun z => by simp [valV_nil]⟩
    (fun i H' _ ⟨kvs, _, _, e, _⟩ => e.lst0 (.inl (.inl hl))) (fun i y H' hy ⟨kvs, hk, hkl, e, hm⟩ => ?_) (fun H' ⟨kvs, hk, hkl, e, hm⟩ => ?_)
  · rw [List.getElem?_map] at hy
    obtain ⟨y0, hy0, rfl⟩ := Option.map_eq_some_iff.mp hy
    have hi : i < ys.length := by
      rcases Nat.lt_or_ge i ys.length with a | a
      · exact a
      · rw [List.getElem?_eq_none a] at hy0; cases hy0
    refine ⟨rfl, ?_⟩
    refine ⟨_, rfl, kvs, Sum.inr y0, rfl, hk, big_sz (by omega), _, upd_same, Nat.le_trans (length_putK _ _ _) (by omega), e.mut hd, fun z => ?_⟩
    rw [valV_put, (take_step hy0).1, List.mem_append, List.mem_singleton]
    by_cases ez : z = y0
    · rw [if_pos (by rw [ez])]
      simp [ez]
    · rw [if_neg fun q => ez (Sum.inr.inj q), hm z]
      simp [ez]
  · rw [List.length_map] at hkl hm
    rw [List.take_length] at hm
    have hxd : x ≠ d := ne_of_none hx hd
    refine ⟨_, rfl, _, _, _, _, rfl, e.get0 hx, T.cFresh, T.nUsed, (by show 0 < 1000; decide), ?_⟩
    refine ⟨_, rfl, _, _, _, _, rfl, upd_same, T.cFresh, T.nNumber, (by show 1 < 1000; decide), ?_⟩
    refine q d _ kvs (((e.mono (T := [x]) (by simp)).put (by simp) (e.get0 hx) rfl).put (by simp) upd_same rfl) hd ⟨upd_same, ?_, hm, hkl, fun j h1 h2 => by omega⟩
    rw [upd_ne hxd.symm, upd_ne hxd.symm]
    exact hk
def spFName (K : PySem.W.Frag) : L2.Sp := fun vs H Q _ => ∃ fr dx d m kvs U, vs = [.ref fr] ∧ Fr K H fr dx d m kvs U ∧ U.length ≤ 60 ∧
  ∀ nm H' m' kvs', nm ∉ U → nmOk nm → Ext [fr, d] H H' → Fr K H' fr dx d m' kvs' (U ++ [nm]) → Q (.str nm) H'
def numAt (H : Hp) (fr : Addr) : Nat := match H fr with
  | some (.ins _ _ [_, (_, .int i)]) => i.toNat
  | _ => 0
theorem sc_Fresh_name : FnScope ["self", "name"] ["self"] (defScope s_Fresh_name) := ⟨rfl, rfl, rfl, by decide +kernel, rfl, by decide +kernel, by decide +kernel⟩
theorem hm_Fresh_name_of (T : Tx w K mg) (D : Dm K (cFr K) "name" "Fresh.name" s_Fresh_name f) : Hm P w K mg base CX0 1 (cFr K) "name" ["self"] (spFName K) := by
  refine Hm.of D sc_Fresh_name (fun vs H Q E h => ?_) (fun _ _ _ _ _ _ us hl => match us, hl with | [_], _ => rfl) (fun cdv A outer s H vs Q E hr h => ?_)
  · obtain ⟨fr, dx, d, m, kvs, U, rfl, _⟩ := h
    rfl
  obtain ⟨fr, dx, d, m, kvs, U, rfl, F, hU, q⟩ := h
  refine ⟨_, PSs.nox (pss_one (ps_while PassesOwn.never (pt_val pe_bl) (pss_cons (ps_fldaug (pv 0) pe_int in_add)
      (pss_cons (ps_set (i := 1) sc_Fresh_name.nd rfl (by first | exact Or.inl rfl | exact Or.inr rfl) (pe_joined (.cons pe_str (.cons (pe_fmt (pe_fld (pv 0) rfl)) .nil))))
      (pss_one (ps_if (pt_cmp (pc_dnotin (hu_of hr) (pv 1) (pe_fld (pv 0) rfl)) rfl) (pss_cons (ps_dput (hu_of hr) (pe_fld (pv 0) rfl) (pv 1) pe_bl rfl)
      (pss_one (ps_ret (pv 1)))) pss_nil)))))), ?_⟩
  refine while_by (fun σ H' => (∃ o, σ = [some (.ref fr), o]) ∧ ∃ m', Fr K H' fr dx d m' kvs U ∧ Ext [fr, d] H H') (fun _ H' => 100 - numAt H' fr) ⟨⟨_, rfl⟩, m, F, .refl⟩ (fun σ H' ⟨⟨o, e⟩, m', F', x'⟩ => ?_) (fun σ H' Q1 Q2 z ⟨k, e, q⟩ => ⟨k, e, z _ _ q⟩)
  subst e
  have few := uN_few F'.nums hU
  refine ⟨_, rfl, ifT rfl ?_⟩
  refine ⟨_, rfl, _, _, _, _, _, rfl, F'.at_, T.cFresh, T.nNumber, rfl, _, _, rfl, rfl, _, _, F'.at_, (by show 2 < 1000; decide), ?_⟩
  have F1 : H' d = some (.dK kvs) := F'.fd
  have hne := F'.ne
  have x1 : Ext [fr, d] H (upd H' fr (.ins (cFr K) dx [("used", .ref d), ("number", .int ((m' : Nat) + 1))])) := x'.put (by simp) F'.at_ rfl
  have at1 : upd H' fr (.ins (cFr K) dx [("used", .ref d), ("number", .int ((m' : Nat) + 1))]) fr = some (.ins (cFr K) dx [("used", .ref d), ("number", .int ((m' + 1 : Nat) : Int))]) := upd_same
  have fd1 : upd H' fr (.ins (cFr K) dx [("used", .ref d), ("number", .int ((m' : Nat) + 1))]) d = some (.dK kvs) := (upd_ne hne.symm).trans F1
  have ok := uN_ok (m' + 1) (by omega)
  have ok1 := ok.1.2
  refine ⟨_, rfl, small_sz (by decide +kernel), ?_⟩
  refine ⟨_, rfl, _, _, _, _, _, rfl, at1, T.cFresh, T.nNumber, rfl, .inr ⟨_, rfl, ?_, _, rfl, ?_, ?_⟩⟩
  · have := Nat.log2_le_self (m' + 1)
    show (m' + 1).log2 < 1920
    omega
  · exact small_sz (Nat.le_trans ok1 (by decide))
  refine ⟨_, rfl, _, rfl, _, _, _, _, _, rfl, at1, T.cFresh, T.nUsed, rfl, d, _, rfl, DGet.k (k := Sum.inr (uN (m' + 1))) fd1, _, rfl, ?_⟩
  cases hin : (valV kvs (Sum.inr (uN (m' + 1)))).isSome with
  | true =>
    refine ifF rfl ?_
    refine ⟨⟨⟨_, rfl⟩, m' + 1, ⟨at1, fd1, F'.us, F'.len, fun j h1 h2 => ?_⟩, x1⟩, ?_⟩
    · rcases Nat.lt_or_ge m' j with a | a
      · rw [show j = m' + 1 by omega]
        exact (F'.us _).mp hin
      · exact F'.nums j h1 a
    · have z1 : numAt H' fr = m' := by unfold numAt; rw [F'.at_]; rfl
      have z2 : numAt (upd H' fr (.ins (cFr K) dx [("used", .ref d), ("number", .int ((m' : Nat) + 1))])) fr = m' + 1 := by unfold numAt; rw [at1]; rfl
      show 100 - numAt (upd H' fr (.ins (cFr K) dx [("used", .ref d), ("number", .int ((m' : Nat) + 1))])) fr < 100 - numAt H' fr
      rw [z1, z2]
      omega
  | false =>
    refine ifT rfl ?_
    have hnot : uN (m' + 1) ∉ U := fun z => by rw [(F'.us _).mpr z] at hin; cases hin
    have hl := F'.len
    refine ⟨_, rfl, _, _, _, _, _, rfl, at1, T.cFresh, T.nUsed, rfl, _, rfl, d, _, rfl, DPut.k (k := Sum.inr (uN (m' + 1))) fd1 (big_sz (by omega)), ?_⟩
    refine ⟨_, rfl, ?_⟩
    refine q (uN (m' + 1)) _ (m' + 1) (putK kvs (Sum.inr (uN (m' + 1))) (.bl true)) hnot ok (x1.put (by simp) fd1 rfl) ⟨(upd_ne hne).trans at1, upd_same, fun z => ?_, ?_, fun j h1 h2 => ?_⟩
    · rw [valV_put, List.mem_append, List.mem_singleton]
      by_cases ez : z = uN (m' + 1)
      · rw [if_pos (by rw [ez])]
        simp [ez]
      · rw [if_neg fun q => ez (Sum.inr.inj q), F'.us z]
        simp [ez]
    · rw [List.length_append]
      exact Nat.le_trans (length_putK _ _ _) (Nat.succ_le_succ hl)
    · rcases Nat.lt_or_ge m' j with a | a
      · rw [show j = m' + 1 by omega]
        simp
      · exact List.mem_append_left _ (F'.nums j h1 a)
def spFF (K : PySem.W.Frag) : L2.Sp := fun vs H Q _ => ∃ l v f, ∃ A : List Str, ∃ s0 b, vs = [.ref l] ∧ SqL K H l [v] ∧ Rp K H f v ∧ Wf s0 b f ∧ dp f ≤ 40 ∧ A.length ≤ 60 ∧ (∀ x ∈ an f, x ∈ A) ∧
  ∀ fr dx d kvs ys H', Ext [] H H' → Fr K H' fr dx d 0 kvs ys → ys.Nodup → ys.length ≤ A.length → (∀ z, z ∈ ys ↔ z ∈ an f) → H fr = none → H d = none → Q (.ref fr) H'
theorem sc_fresh_for : FnScope ["formulas", "used", "formula"] ["formulas"] (defScope s_fresh_for) := ⟨rfl, rfl, rfl, by decide +kernel, rfl, by decide +kernel, by decide +kernel⟩
theorem hs_fresh_for (T : Tx w K mg) (D : Dn K mg "fresh_for" s_fresh_for f) (h_all_names0 : ∀ n, Hs P w K mg base CX0 (1 + n + 1) "all_names" ["formula"] (spAll K n)) (hi_Fresh : Hi P w K mg base CX0 1 (cFr K) ["self", "used"] (spFInit K)) :
    Hs P w K mg base CX0 43 "fresh_for" ["formulas"] (spFF K) := by
  have h_all_names := h_all_names0 40
  refine Hs.of D sc_fresh_for (fun vs H Q E h => ?_) (fun _ _ _ _ _ _ us hl => match us, hl with | [_], _ => rfl) (fun cdv A0 outer s H vs Q E hr h => ?_)
  · obtain ⟨l, v, f, A, s0, b, rfl, _⟩ := h
    rfl
  obtain ⟨l, v, f, A, s0, b, rfl, hl, hf, wf, hd, hA, hAn, q⟩ := h
  refine ⟨_, PSs.nox (pss_cons (ps_set (i := 1) sc_fresh_for.nd rfl (by first | exact Or.inl rfl | exact Or.inr rfl) (pe_lst pa_nil))
      (pss_cons (ps_for PassesOwn.never rfl (pi_list (pv 0)) (pg_name (i := 2) sc_fresh_for.nd rfl (by first | exact Or.inl rfl | exact Or.inr rfl)) (pss_one (ps_expr (pe_bm PySem.F.plainAttrs_list PySem.F.slot_list_extend PySem.F.type_list_extend mt_extend (pv 1) (pa_cons (pe_h h_all_names (hr.mono (by omega)) rfl pass0 (pa_cons (pv 2) pa_nil)) pa_nil)))))
      (pss_one (ps_ret (pe_mk hi_Fresh (hr.mono (by omega)) rfl T.gFresh pass0 (pa_cons (pv 1) pa_nil)))))), ?_⟩
  refine ⟨sz 0 rfl, fun u hu => ?_⟩
  have e1 : Ext [] H (upd H u (.lst [])) := .new hu
  refine ⟨_, rfl, l, rfl, ⟨_, e1.lst0 hl⟩, for_list (xs := [v]) (fun i σ H' => (∃ o, σ = [some (.ref l), some (.ref u), o]) ∧ Ext [] H H' ∧ ∃ ys, H' u = some (.lst (sv ys)) ∧ (i = 0 → ys = []) ∧ (1 ≤ i → ys.Nodup ∧ ∀ z, z ∈ ys ↔ z ∈ an f)) ⟨⟨_, rfl⟩, e1, [], upd_same, fun _ => rfl, fun h => by omega⟩
    (fun i σ H' _ z => z.2.1.lst0 hl) (fun i x σ H' hx ⟨⟨o, e⟩, e2, ys, hy, h0, _⟩ => ?_) (fun σ H' ⟨⟨o, e⟩, e2, ys, hy, _, h1⟩ => ?_)⟩
  · subst e
    have hi : i = 0 := by
      rcases i with _ | i
      · rfl
      · simp at hx
    subst hi
    have hx : x = v := by simpa using hx.symm
    subst hx
    have h0 := h0 rfl
    subst h0
    refine ⟨_, rfl, .inl ⟨rfl, _, .inl (.inl hy)⟩, ?_⟩
    refine ⟨_, rfl, f, _, A, s0, b, rfl, Rp.ext e2 f hf, wf, hd, by omega, hAn, fun zs p H3 e3 hp hp0 nd hm => ?_⟩
    have hzs : zs.length ≤ A.length := nodup_len nd fun z hz => hAn z ((hm z).mp hz)
    refine ⟨u, p, _, _, rfl, rfl, e3.get0 hy, hp, by rw [List.length_map, List.length_map]; exact small_sz (by simp; omega), ?_⟩
    refine ⟨⟨_, rfl⟩, (e2.trans e3).mut hu, zs, upd_same, fun h => by omega, fun _ => ⟨nd, hm⟩⟩
  · subst e
    obtain ⟨nd, hm⟩ := h1 (Nat.le_refl _)
    have hys : ys.length ≤ A.length := nodup_len nd fun z hz => hAn z ((hm z).mp hz)
    refine ⟨_, rfl, fun x dx hx hdx hne => ?_⟩
    have x1 : Ext [] H (upd H' dx (.own x)) := e2.add hdx
    have hx1 : upd H' dx (.own x) x = none := (upd_ne hne.symm).trans hx
    have x2 : Ext [] H (upd (upd H' dx (.own x)) x (.ins (cFr K) dx [])) := x1.add hx1
    have hu2 : upd (upd H' dx (.own x)) x (.ins (cFr K) dx []) u = some (.lst (sv ys)) := by
      rw [upd_ne (ne_of_none hy hx), upd_ne (ne_of_none hy hdx)]
      exact hy
    have hx0 := e2.free x hx
    refine ⟨x, dx, u, ys, rfl, upd_same, hu2, nd, by omega, fun d H4 kvs e4 hd4 F4 => ⟨rfl, ?_⟩⟩
    exact q x dx d kvs ys H4 (x2.late e4 (by simpa using hx0)) F4 nd hys hm hx0 (x2.free d hd4)
end
end Say
set_option maxRecDepth 100000
set_option maxHeartbeats 4000000
/-! names anew -/
namespace Say
open PySem PySem.Spec PyProof.Rows L2 Fm
section
variable {P : Program} {w : World} {K : PySem.W.Frag} {mg : Str → Option Value} {base : Heap} {f : Addr} {B : Nat}
def Kd (k : Str → Str) (kk : List (Key × V)) : Prop := ∀ x, (valV kk (Sum.inr x)).getD (.str x) = V.str (k x)
theorem Kd.put {k : Str → Str} {kk : List (Key × V)} (h : Kd k kk) (v nm : Str) : Kd (fun x => if x = v then nm else k x) (putK kk (Sum.inr v) (.str nm)) := fun x => by
  rw [valV_put]
  show _ = V.str (if x = v then nm else k x)
  by_cases e : x = v
  · rw [if_pos (by rw [e]), if_pos e]; rfl
  · rw [if_neg fun z => e (Sum.inr.inj z), if_neg e]; exact h x
theorem map_put {k : Str → Str} {vs ws : List Str} (nd : vs.Nodup) (hl : ws.length = vs.length) : vs.map (put k vs ws) = ws := by
  apply List.ext_getElem (by rw [List.length_map, hl])
  intro i h1 h2
  rw [List.getElem_map]
  exact put_at nd (List.getElem?_eq_getElem (by simpa using h1)) (List.getElem?_eq_getElem h2)
def spNamed (K : PySem.W.Frag) : L2.Sp := fun vs H Q _ => ∃ a kd, ∃ xs : List Str, ∃ kk k, vs = [.ref a, .ref kd] ∧ SqT K H a (sv xs) ∧ H kd = some (.dK kk) ∧ Kd k kk ∧ xs.length ≤ 1000 ∧ ∀ p H', Ext [] H H' → SqT K H' p (sv (xs.map k)) → Q (.ref p) H'
theorem sc_named : FnScope ["names", "known", "name"] ["names", "known"] (defScope s_named) := ⟨rfl, rfl, rfl, by decide +kernel, rfl, by decide +kernel, by decide +kernel⟩
theorem hs_named (T : Tx w K mg) (D : Dn K mg "named" s_named f) : Hs P w K mg base CX0 1 "named" ["names", "known"] (spNamed K) := by
  refine Hs.of D sc_named (fun vs H Q E h => ?_) (fun _ _ _ _ _ _ us hl => match us, hl with | [_, _], _ => rfl) (fun cdv A outer s H vs Q E hr h => ?_)
  · obtain ⟨a, kd, xs, kk, k, rfl, _⟩ := h
    rfl
  obtain ⟨a, kd, xs, kk, k, rfl, ha, hk, hK, hz, q⟩ := h
  refine ⟨_, PSs.nox (pss_one (ps_ret (pe_callTy call_tuple_of (by rfl) T.ztuple (by decide +kernel) (pa_cons (pe_lc (own := [("name", 2)]) (g := gName 2) rfl sc_named.nd (pi_tup (pv 0)) (blkOk_by (own := [("name", 2)]) (N := ["names", "known", "name"]) (sc := defScope s_named) (by decide +kernel)) (fun _ _ _ _ _ => pg_name (i := 2) sc_named.nd rfl (Or.inl rfl)) (fun _ _ _ _ _ => pts_nil) (fun _ _ _ _ _ => (pe_dget2 (hu_of hr) (pv 1) (pv 2) (pv 2) ⟨rfl, rfl, rfl, rfl⟩))) pa_nil)))), ?_⟩
  refine ⟨_, rfl, a, rfl, ⟨_, ha⟩, fun D hD => ?_⟩
  refine lc_tup (xs := sv xs) (fun i H' => H' D = some (.lst (sv ((xs.take i).map k))) ∧ Ext [] H H') ⟨upd_same, .new hD⟩ (fun i H' _ z => z.2.tup ha) (fun i y H' hy ⟨h1, e1⟩ => ?_) (fun H' ⟨h1, e1⟩ => ?_)
  · rw [List.getElem?_map] at hy
    obtain ⟨y0, hy0, rfl⟩ := Option.map_eq_some_iff.mp hy
    have hi : i < xs.length := by
      rcases Nat.lt_or_ge i xs.length with a | a
      · exact a
      · rw [List.getElem?_eq_none a] at hy0; cases hy0
    refine ⟨rfl, ?_⟩
    refine ⟨_, rfl, kd, rfl, .inl ⟨_, .inl (e1.get0 hk)⟩, _, rfl, _, rfl, _, DGet.k (k := Sum.inr y0) (e1.get0 hk), ?_⟩
    refine ⟨_, h1, big_sz (by rw [List.length_map, List.length_map, List.length_take]; omega), ?_, e1.mut hD⟩
    have z : sv (List.map k (List.take i xs) ++ List.map k [y0]) = sv (List.map k (List.take i xs)) ++ [V.str (k y0)] := List.map_append
    rw [upd_same, (take_step hy0).1, List.map_append, hK y0, z]
  · rw [List.length_map, List.take_length] at h1
    exact ⟨_, _, rfl, .inl ⟨.inl (.inl h1), fun p hp => q p _ (e1.add hp) (SqT.of upd_same)⟩⟩
/-! ### what a formula binds, under other names -/
def trn (k : Str → Str) (ws : List Str) : Fm → Fm
  | rel nm args => rel nm (args.map k)
  | cmp c x y => cmp c (k x) (k y)
  | qu c _ g => qu c ws g
  | f => f
def spWith (K : PySem.W.Frag) : L2.Sp := fun vs H Q _ => ∃ f v kd kk k fr dx d m kvs U s0 b, vs = [v, .ref kd, .ref fr] ∧ Rp K H f v ∧ Wf s0 b f ∧ fo f = true ∧ H kd = some (.dK kk) ∧ Kd k kk ∧ kk.length ≤ U.length ∧ kd ≠ d ∧ Fr K H fr dx d m kvs U ∧ U.length + (ownV f).length ≤ 60 ∧
  ∀ ws pr tv ins kk' H' m' kvs', ws.length = (ownV f).length → ws.Nodup → (∀ x ∈ ws, x ∉ U ∧ nmOk x) → Ext [fr, d] H H' → Fr K H' fr dx d m' kvs' (U ++ ws) → SqT K H' pr [tv, .ref ins] → Rp K H' (trn k ws f) tv → H' ins = some (.dK kk') → Kd (put k (ownV f) ws) kk' →
    kk'.length ≤ (U ++ ws).length → ins ≠ d → Q (.ref pr) H'
theorem sc_with_own : FnScope ["formula", "known", "fresh", "word", "inside", "name", "own"] ["formula", "known", "fresh"] (defScope s_with_own) := ⟨rfl, rfl, rfl, by decide +kernel, rfl, by decide +kernel, by decide +kernel⟩
theorem hs_with_own (T : Tx w K mg) (D : Dn K mg "with_own" s_with_own f) (h_own_variables : Hs P w K mg base CX0 1 "own_variables" ["formula"] (spOwnV K)) (h_named : Hs P w K mg base CX0 1 "named" ["names", "known"] (spNamed K)) (hm_Fresh_name : Hm P w K mg base CX0 1 (cFr K) "name" ["self"] (spFName K)) :
    Hs P w K mg base CX0 2 "with_own" ["formula", "known", "fresh"] (spWith K) := by
  refine Hs.of D sc_with_own (fun vs H Q E h => ?_) (fun _ _ _ _ _ _ us hl => match us, hl with | [_, _, _], _ => rfl) (fun cdv A outer s H vs Q E hr h => ?_)
  · obtain ⟨f, v, kd, kk, k, fr, dx, d, m, kvs, U, s0, b, rfl, _⟩ := h
    rfl
  obtain ⟨f, v, kd, kk, k, fr, dx, d, m, kvs, U, s0, b, rfl, hf, wf, hfo, hk, hK, hkl, hkd, F, hU, q⟩ := h
  refine ⟨_, PSs.nox (pss_cons (ps_set (i := 3) sc_with_own.nd rfl (by first | exact Or.inl rfl | exact Or.inr rfl) (pe_ix ix_tup (pv 0) pe_int (fun _ _ => rfl)))
      (pss_cons (ps_set (i := 4) sc_with_own.nd rfl (by first | exact Or.inl rfl | exact Or.inr rfl) (pe_callTy call_dictD (by rfl) T.zdict (by decide +kernel) (pa_cons (pv 1) pa_nil)))
      (pss_cons (ps_for PassesOwn.never rfl (pi_tup (pe_h h_own_variables (hr.mono (by omega)) rfl pass0 (pa_cons (pv 0) pa_nil))) (pg_name (i := 5) sc_with_own.nd rfl (by first | exact Or.inl rfl | exact Or.inr rfl)) (pss_one (ps_dput (hu_of hr) (pv 4) (pv 5) (pe_mt0 hm_Fresh_name (hr.mono (by omega)) (pv 2) T.cFresh pass0) rfl)))
      (pss_cons (ps_set (i := 6) sc_with_own.nd rfl (by first | exact Or.inl rfl | exact Or.inr rfl) (pe_h h_named (hr.mono (by omega)) rfl pass0 (pa_cons (pe_h h_own_variables (hr.mono (by omega)) rfl pass0 (pa_cons (pv 0) pa_nil)) (pa_cons (pv 4) pa_nil))))
      (pss_cons (ps_if (pt_cmpR op_eq (pv 3) pe_str (nomark _)) (pss_one (ps_ret (pe_tup (pa_cons (pe_tup (pa_cons (pv 3) (pa_cons (pe_ix ix_tup (pv 0) pe_int (fun _ _ => rfl)) (pa_cons (pe_h h_named (hr.mono (by omega)) rfl pass0 (pa_cons (pe_ix ix_tup (pv 0) pe_int (fun _ _ => rfl)) (pa_cons (pv 1) pa_nil))) pa_nil)))) (pa_cons (pv 4) pa_nil))))) pss_nil)
      (pss_cons (ps_if (PW.pt (pw_or (pt_cmpR op_eq (pv 3) pe_str (nomark _)) (pw_or1 (pt_cmpR op_eq (pv 3) pe_str (nomark _))))) (pss_one (ps_ret (pe_tup (pa_cons (pe_op op_catS (pe_tup (pa_cons (pv 3) pa_nil)) (pe_h h_named (hr.mono (by omega)) rfl pass0 (pa_cons (pe_slice sl_tupA (pv 0) (po_some pe_int) po_none) (pa_cons (pv 1) pa_nil)))) (pa_cons (pv 4) pa_nil))))) pss_nil)
      (pss_cons (ps_if (pt_cmpR op_in_seq (pv 3) (pe_glob (v := .ref (He.ga K "QUANTIFIERS")) rfl T.qus.1 rfl) rfl) (pss_one (ps_ret (pe_tup (pa_cons (pe_tup (pa_cons (pv 3) (pa_cons (pv 6) (pa_cons (pe_ix ix_tup (pv 0) pe_int (fun _ _ => rfl)) pa_nil)))) (pa_cons (pv 4) pa_nil))))) pss_nil)
      (pss_cons (ps_if (pt_cmpR op_in_seq (pv 3) (pe_glob (v := .ref (He.ga K "FIXED")) rfl T.fix.1 rfl) rfl) (pss_one ps_never) pss_nil)
      (pss_cons (ps_if (pt_cmpR op_eq (pv 3) pe_str (nomark _)) (pss_one ps_never) pss_nil)
      (pss_one (ps_ret (pe_tup (pa_cons (pv 0) (pa_cons (pv 4) pa_nil)))))))))))))), ?_⟩
  have hf0 := hf
  obtain ⟨a, xs, rfl, hat⟩ := Rp.at f hf
  obtain ⟨_, w2⟩ := wf_own wf
  refine ⟨_, rfl, _, _, _, _, rfl, rfl, hat, at_zero, ?_⟩
  refine ⟨_, rfl, _, _, rfl, .inl hk, fun ins hin => ?_⟩
  have e1 : Ext [] H (upd H ins (.dK kk)) := .new hin
  have nk : ins ≠ kd := (ne_of_none hk hin).symm
  have nf : ins ≠ fr := (ne_of_none F.at_ hin).symm
  have nd : ins ≠ d := (ne_of_none F.fd hin).symm
  have kf : kd ≠ fr := ne_of hk F.at_ (by intro z; cases z)
  refine ⟨_, rfl, _, _, rfl, Rp.ext e1 f hf0, fun p1 H1 e2 hp1 => ?_⟩
  have E2 := e1.trans e2
  have vnd : (ownV f).Nodup := by
    cases f with
    | qu c vs g => exact wf.1.1
    | fx l m vs g args => cases hfo
    | tc vs g args => cases hfo
    | _ => exact List.nodup_nil
  refine ⟨_, rfl, ⟨_, hp1⟩, for_tup (xs := sv (ownV f)) (fun i σ H' => (∃ o1 o2, σ = [some (.ref a), some (.ref kd), some (.ref fr), some (.str (wd f)), some (.ref ins), o1, o2]) ∧ Ext [fr, d, ins] H1 H' ∧ ∃ ws m' kvs' kk', ws.length = i ∧ ws.Nodup ∧ (∀ x ∈ ws, x ∉ U ∧ nmOk x) ∧
      Fr K H' fr dx d m' kvs' (U ++ ws) ∧ H' ins = some (.dK kk') ∧ Kd (Say.put k ((ownV f).take i) ws) kk' ∧ kk'.length ≤ (U ++ ws).length) ⟨⟨_, _, rfl⟩, .refl, [], m, kvs, kk, rfl, List.nodup_nil, by simp, by rw [List.append_nil]; exact F.get0 E2, e2.get0 upd_same, by rw [put_nil2]; exact hK, by simpa using hkl⟩
    (fun i σ H' _ z => z.2.1.tup hp1) (fun i x σ H' hx ⟨⟨o1, o2, e⟩, e3, ws, m', kvs', kk', hwl, hwn, hwU, F3, hi3, hK3, hkl3⟩ => ?_) (fun σ H' ⟨⟨o1, o2, e⟩, e3, ws, m', kvs', kk', hwl, hwn, hwU, F3, hi3, hK3, hkl3⟩ => ?_)⟩
  · subst e
    rw [List.getElem?_map] at hx
    obtain ⟨x0, hx0, rfl⟩ := Option.map_eq_some_iff.mp hx
    have hi : i < (ownV f).length := by
      rcases Nat.lt_or_ge i (ownV f).length with a | a
      · exact a
      · rw [List.getElem?_eq_none a] at hx0; cases hx0
    refine ⟨_, rfl, _, _, _, rfl, F3.at_, rfl, _, _, _, m', kvs', U ++ ws, rfl, F3, by rw [List.length_append]; omega, fun nm H4 m4 kvs4 hnm hok e4 F4 => ?_⟩
    have hi4 : H4 ins = some (.dK kk') := e4.get hi3 (by simp [nf, nd])
    have hkk : kk'.length ≤ 60 := by rw [List.length_append] at hkl3; omega
    refine ⟨_, rfl, _, rfl, ins, _, rfl, DPut.k (k := Sum.inr x0) hi4 (big_sz (by omega)), ?_⟩
    have e5 : Ext [fr, d, ins] H1 (upd H4 ins (.dK (putK kk' (Sum.inr x0) (.str nm)))) := (e3.trans (e4.mono (by simp))).put (by simp) hi4 rfl
    refine ⟨⟨_, _, rfl⟩, e5, ws ++ [nm], m4, kvs4, _, by simp [hwl], ?_, ?_, ?_, upd_same, ?_, ?_⟩
    · rw [List.nodup_append]
      refine ⟨hwn, by simp, fun a ha b hb => ?_⟩
      rw [List.mem_singleton.mp hb]
      intro e
      exact hnm (List.mem_append_right _ (e ▸ ha))
    · intro x hx
      rcases List.mem_append.mp hx with z | z
      · exact hwU x z
      · rw [List.mem_singleton.mp z]
        exact ⟨fun y => hnm (List.mem_append_left _ y), hok⟩
    · rw [← List.append_assoc]
      exact ⟨(upd_ne nf.symm).trans F4.at_, (upd_ne nd.symm).trans F4.fd, F4.us, F4.len, F4.nums⟩
    · rw [(take_step hx0).1, put_app (by rw [List.length_take, hwl]; omega)]
      exact hK3.put x0 nm
    · refine Nat.le_trans (length_putK _ _ _) ?_
      rw [← List.append_assoc, List.length_append (bs := [nm])]
      exact Nat.succ_le_succ hkl3
  · subst e
    rw [List.length_map] at hwl hK3
    rw [List.take_length] at hK3
    have E3 : Ext [fr, d] H H' := (E2.any).drop e3 fun b m => by
      simp only [List.mem_cons, List.not_mem_nil, or_false] at m
      rcases m with z | z | z
      · exact .inl (by simp [z])
      · exact .inl (by simp [z])
      · exact .inr (by rw [z]; exact hin)
    have hk3 : H' kd = some (.dK kk) := E3.get hk (by simp [kf, hkd])
    refine ⟨_, rfl, _, _, rfl, Rp.ext E3 f hf0, fun p4 H4 e4 hp4 => ?_⟩
    refine ⟨_, rfl, _, _, _, _, _, rfl, hp4, e4.get0 hi3, hK3, by omega, fun p5 H5 e5 hp5 => ?_⟩
    rw [map_put vnd hwl] at hp5
    have E5 : Ext [fr, d] H H5 := E3.trans ((e4.trans e5).any)
    have F5 := F3.get0 (e4.trans e5)
    have hi5 := (e4.trans e5).get0 hi3
    have hk5 := (e4.trans e5).get0 hk3
    cases f with
    | rel nm args =>
      obtain ⟨a', b', e', k1, k2⟩ := hf0
      cases e'
      have k1' := E5.tup k1
      have k2' := E5.tup k2
      refine ⟨_, rfl, rfl, _, rfl, ifT (decide_eq_true rfl) ?_⟩
      refine ⟨_, rfl, _, rfl, _, _, _, _, rfl, rfl, k1', rfl, _, rfl, _, _, _, _, rfl, rfl, k1', rfl, _, rfl, _, _, _, _, _, rfl, k2', hk5, hK, by have := wf.2.2.1; omega, fun p6 H6 e6 hp6 => ?_⟩
      refine ⟨sz 3 rfl, fun p7 hp7 => ?_⟩
      have e7 : Ext [] H5 (upd H6 p7 (.tup [.str (wd (rel nm args)), .str nm, .ref p6])) := e6.add hp7
      refine ⟨_, rfl, sz 2 rfl, fun p8 hp8 => ?_⟩
      have e8 := e7.add (o := .tup [.ref p7, .ref ins]) hp8
      refine q ws p8 (.ref p7) ins kk' _ m' kvs' hwl hwn hwU (E5.trans e8.any) (F5.get0 e8) (SqT.of upd_same) ?_ (e8.get0 hi5) hK3 hkl3 nd
      have e9 : Ext [] (upd H6 p7 (.tup [.str (wd (rel nm args)), .str nm, .ref p6])) _ := Ext.new (o := .tup [.ref p7, .ref ins]) hp8
      exact ⟨p7, p6, rfl, e9.tup (SqT.of upd_same), (e9.tup ((Ext.new (S := []) hp7).tup hp6))⟩
    | cmp c x y =>
      obtain ⟨a', e', k1⟩ := hf0
      cases e'
      have k1' := E5.tup k1
      cases c with
      | false =>
        refine ⟨_, rfl, rfl, _, rfl, ifF (decide_eq_false fun z => absurd (V.str.inj z : ("eq" : Str) = "rel") (by decide +kernel)) ?_⟩
        refine ⟨_, rfl, rfl, _, rfl, ifT (decide_eq_true rfl) (ifT rfl ?_)⟩
        refine ⟨_, rfl, sz 1 rfl, fun p6 hp6 => ?_⟩
        have e6 : Ext [] H5 (upd H5 p6 (.tup [.str "eq"])) := .new hp6
        refine ⟨_, rfl, 1, rfl, _, _, rfl, e6.tup k1', fun z => absurd (show (1 : Nat) = 0 from z.1) (by decide), fun _ p9 hp9 => ?_⟩
        have e9 : Ext [] H5 (upd (upd H5 p6 (.tup [.str "eq"])) p9 (.tup [.str x, .str y])) := e6.add hp9
        have hsl : SqT K (upd (upd H5 p6 (.tup [.str "eq"])) p9 (.tup [.str x, .str y])) p9 (sv [x, y]) := SqT.of upd_same
        refine ⟨_, rfl, _, _, [x, y], _, _, rfl, hsl, e9.get0 hk5, hK, by show 2 ≤ 1000; decide, fun p7 H7 e7 hp7 => ?_⟩
        refine ⟨_, _, ["eq"], _, rfl, rfl, ?_, hp7, by show 1 + 2 ≤ 1000; decide, fun p10 H10 e10 hp10 => ?_⟩
        · exact e7.tup ((Ext.new (S := []) hp9).tup (SqT.of upd_same))
        have E10 := e9.trans (e7.trans e10)
        refine ⟨_, rfl, sz 2 rfl, fun p8 hp8 => ?_⟩
        have e8 := E10.add (o := .tup [.ref p10, .ref ins]) hp8
        refine q ws p8 (.ref p10) ins kk' _ m' kvs' hwl hwn hwU (E5.trans e8.any) (F5.get0 e8) (SqT.of upd_same) ?_ (e8.get0 hi5) hK3 hkl3 nd
        exact ⟨p10, rfl, (Ext.new (S := []) hp8).tup hp10⟩
      | true =>
        refine ⟨_, rfl, rfl, _, rfl, ifF (decide_eq_false fun z => absurd (V.str.inj z : ("less" : Str) = "rel") (by decide +kernel)) ?_⟩
        refine ⟨_, rfl, rfl, _, rfl, ifF (decide_eq_false fun z => absurd (V.str.inj z : ("less" : Str) = "eq") (by decide +kernel)) ?_⟩
        refine ⟨_, rfl, rfl, _, rfl, ifT (decide_eq_true rfl) ?_⟩
        refine ⟨_, rfl, sz 1 rfl, fun p6 hp6 => ?_⟩
        have e6 : Ext [] H5 (upd H5 p6 (.tup [.str "less"])) := .new hp6
        refine ⟨_, rfl, 1, rfl, _, _, rfl, e6.tup k1', fun z => absurd (show (1 : Nat) = 0 from z.1) (by decide), fun _ p9 hp9 => ?_⟩
        have e9 : Ext [] H5 (upd (upd H5 p6 (.tup [.str "less"])) p9 (.tup [.str x, .str y])) := e6.add hp9
        have hsl : SqT K (upd (upd H5 p6 (.tup [.str "less"])) p9 (.tup [.str x, .str y])) p9 (sv [x, y]) := SqT.of upd_same
        refine ⟨_, rfl, _, _, [x, y], _, _, rfl, hsl, e9.get0 hk5, hK, by show 2 ≤ 1000; decide, fun p7 H7 e7 hp7 => ?_⟩
        refine ⟨_, _, ["less"], _, rfl, rfl, ?_, hp7, by show 1 + 2 ≤ 1000; decide, fun p10 H10 e10 hp10 => ?_⟩
        · exact e7.tup ((Ext.new (S := []) hp9).tup (SqT.of upd_same))
        have E10 := e9.trans (e7.trans e10)
        refine ⟨_, rfl, sz 2 rfl, fun p8 hp8 => ?_⟩
        have e8 := E10.add (o := .tup [.ref p10, .ref ins]) hp8
        refine q ws p8 (.ref p10) ins kk' _ m' kvs' hwl hwn hwU (E5.trans e8.any) (F5.get0 e8) (SqT.of upd_same) ?_ (e8.get0 hi5) hK3 hkl3 nd
        exact ⟨p10, rfl, (Ext.new (S := []) hp8).tup hp10⟩
    | neg g =>
      refine ⟨_, rfl, rfl, _, rfl, ifF (decide_eq_false fun z => absurd (V.str.inj z : ("not" : Str) = "rel") (by decide +kernel)) ?_⟩
      refine ⟨_, rfl, rfl, _, rfl, ifF (decide_eq_false fun z => absurd (V.str.inj z : ("not" : Str) = "eq") (by decide +kernel)) ?_⟩
      refine ⟨_, rfl, rfl, _, rfl, ifF (decide_eq_false fun z => absurd (V.str.inj z : ("not" : Str) = "less") (by decide +kernel)) ?_⟩
      refine ⟨_, rfl, _, _, rfl, .inr (T.qus.2 _), rfl, rfl, _, rfl, ifF ((wd_in ["some", "all"] [6, 7] (by decide +kernel)).trans rfl) ?_⟩
      refine ⟨_, rfl, _, _, rfl, .inr (T.fix.2 _), rfl, rfl, _, rfl, ifF ((wd_in ["lfp", "pfp"] [8, 9] (by decide +kernel)).trans rfl) ?_⟩
      refine ⟨_, rfl, rfl, _, rfl, ifF (decide_eq_false fun z => absurd (V.str.inj z : ("not" : Str) = "tc") (by decide +kernel)) ?_⟩
      refine ⟨_, rfl, _, rfl, sz 2 rfl, fun p8 hp8 => ?_⟩
      have e8 : Ext [] H5 (upd H5 p8 (.tup [.ref a, .ref ins])) := .new hp8
      refine q ws p8 (.ref a) ins kk' _ m' kvs' hwl hwn hwU (E5.trans e8.any) (F5.get0 e8) (SqT.of upd_same) (Rp.ext (E5.trans e8.any) _ hf0) (e8.get0 hi5) hK3 hkl3 nd
    | jn c fs =>
      cases c with
      | false =>
        refine ⟨_, rfl, rfl, _, rfl, ifF (decide_eq_false fun z => absurd (V.str.inj z : ("or" : Str) = "rel") (by decide +kernel)) ?_⟩
        refine ⟨_, rfl, rfl, _, rfl, ifF (decide_eq_false fun z => absurd (V.str.inj z : ("or" : Str) = "eq") (by decide +kernel)) ?_⟩
        refine ⟨_, rfl, rfl, _, rfl, ifF (decide_eq_false fun z => absurd (V.str.inj z : ("or" : Str) = "less") (by decide +kernel)) ?_⟩
        refine ⟨_, rfl, _, _, rfl, .inr (T.qus.2 _), rfl, rfl, _, rfl, ifF ((wd_in ["some", "all"] [6, 7] (by decide +kernel)).trans rfl) ?_⟩
        refine ⟨_, rfl, _, _, rfl, .inr (T.fix.2 _), rfl, rfl, _, rfl, ifF ((wd_in ["lfp", "pfp"] [8, 9] (by decide +kernel)).trans rfl) ?_⟩
        refine ⟨_, rfl, rfl, _, rfl, ifF (decide_eq_false fun z => absurd (V.str.inj z : ("or" : Str) = "tc") (by decide +kernel)) ?_⟩
        refine ⟨_, rfl, _, rfl, sz 2 rfl, fun p8 hp8 => ?_⟩
        have e8 : Ext [] H5 (upd H5 p8 (.tup [.ref a, .ref ins])) := .new hp8
        refine q ws p8 (.ref a) ins kk' _ m' kvs' hwl hwn hwU (E5.trans e8.any) (F5.get0 e8) (SqT.of upd_same) (Rp.ext (E5.trans e8.any) _ hf0) (e8.get0 hi5) hK3 hkl3 nd
      | true =>
        refine ⟨_, rfl, rfl, _, rfl, ifF (decide_eq_false fun z => absurd (V.str.inj z : ("and" : Str) = "rel") (by decide +kernel)) ?_⟩
        refine ⟨_, rfl, rfl, _, rfl, ifF (decide_eq_false fun z => absurd (V.str.inj z : ("and" : Str) = "eq") (by decide +kernel)) ?_⟩
        refine ⟨_, rfl, rfl, _, rfl, ifF (decide_eq_false fun z => absurd (V.str.inj z : ("and" : Str) = "less") (by decide +kernel)) ?_⟩
        refine ⟨_, rfl, _, _, rfl, .inr (T.qus.2 _), rfl, rfl, _, rfl, ifF ((wd_in ["some", "all"] [6, 7] (by decide +kernel)).trans rfl) ?_⟩
        refine ⟨_, rfl, _, _, rfl, .inr (T.fix.2 _), rfl, rfl, _, rfl, ifF ((wd_in ["lfp", "pfp"] [8, 9] (by decide +kernel)).trans rfl) ?_⟩
        refine ⟨_, rfl, rfl, _, rfl, ifF (decide_eq_false fun z => absurd (V.str.inj z : ("and" : Str) = "tc") (by decide +kernel)) ?_⟩
        refine ⟨_, rfl, _, rfl, sz 2 rfl, fun p8 hp8 => ?_⟩
        have e8 : Ext [] H5 (upd H5 p8 (.tup [.ref a, .ref ins])) := .new hp8
        refine q ws p8 (.ref a) ins kk' _ m' kvs' hwl hwn hwU (E5.trans e8.any) (F5.get0 e8) (SqT.of upd_same) (Rp.ext (E5.trans e8.any) _ hf0) (e8.get0 hi5) hK3 hkl3 nd
    | qu c vs g =>
      obtain ⟨a', b', u, e', k1, k2, k3⟩ := hf0
      cases e'
      have k1' := E5.tup k1
      cases c with
      | false =>
        refine ⟨_, rfl, rfl, _, rfl, ifF (decide_eq_false fun z => absurd (V.str.inj z : ("some" : Str) = "rel") (by decide +kernel)) ?_⟩
        refine ⟨_, rfl, rfl, _, rfl, ifF (decide_eq_false fun z => absurd (V.str.inj z : ("some" : Str) = "eq") (by decide +kernel)) ?_⟩
        refine ⟨_, rfl, rfl, _, rfl, ifF (decide_eq_false fun z => absurd (V.str.inj z : ("some" : Str) = "less") (by decide +kernel)) ?_⟩
        refine ⟨_, rfl, _, _, rfl, .inr (T.qus.2 _), rfl, rfl, _, rfl, ifT ((wd_in ["some", "all"] [6, 7] (by decide +kernel)).trans rfl) ?_⟩
        refine ⟨_, rfl, _, rfl, _, rfl, _, _, _, _, rfl, rfl, k1', rfl, sz 3 rfl, fun p7 hp7 => ?_⟩
        have e7 : Ext [] H5 (upd H5 p7 (.tup [.str "some", .ref p5, u])) := .new hp7
        refine ⟨_, rfl, sz 2 rfl, fun p8 hp8 => ?_⟩
        have e8 := e7.add (o := .tup [.ref p7, .ref ins]) hp8
        have e9 : Ext [] (upd H5 p7 (.tup [.str "some", .ref p5, u])) (upd (upd H5 p7 (.tup [.str "some", .ref p5, u])) p8 (.tup [.ref p7, .ref ins])) := .new hp8
        refine q ws p8 (.ref p7) ins kk' _ m' kvs' hwl hwn hwU (E5.trans e8.any) (F5.get0 e8) (SqT.of upd_same) ?_ (e8.get0 hi5) hK3 hkl3 nd
        exact ⟨p7, p5, u, rfl, e9.tup (SqT.of upd_same), e8.tup hp5, Rp.ext (E5.trans e8.any) _ k3⟩
      | true =>
        refine ⟨_, rfl, rfl, _, rfl, ifF (decide_eq_false fun z => absurd (V.str.inj z : ("all" : Str) = "rel") (by decide +kernel)) ?_⟩
        refine ⟨_, rfl, rfl, _, rfl, ifF (decide_eq_false fun z => absurd (V.str.inj z : ("all" : Str) = "eq") (by decide +kernel)) ?_⟩
        refine ⟨_, rfl, rfl, _, rfl, ifF (decide_eq_false fun z => absurd (V.str.inj z : ("all" : Str) = "less") (by decide +kernel)) ?_⟩
        refine ⟨_, rfl, _, _, rfl, .inr (T.qus.2 _), rfl, rfl, _, rfl, ifT ((wd_in ["some", "all"] [6, 7] (by decide +kernel)).trans rfl) ?_⟩
        refine ⟨_, rfl, _, rfl, _, rfl, _, _, _, _, rfl, rfl, k1', rfl, sz 3 rfl, fun p7 hp7 => ?_⟩
        have e7 : Ext [] H5 (upd H5 p7 (.tup [.str "all", .ref p5, u])) := .new hp7
        refine ⟨_, rfl, sz 2 rfl, fun p8 hp8 => ?_⟩
        have e8 := e7.add (o := .tup [.ref p7, .ref ins]) hp8
        have e9 : Ext [] (upd H5 p7 (.tup [.str "all", .ref p5, u])) (upd (upd H5 p7 (.tup [.str "all", .ref p5, u])) p8 (.tup [.ref p7, .ref ins])) := .new hp8
        refine q ws p8 (.ref p7) ins kk' _ m' kvs' hwl hwn hwU (E5.trans e8.any) (F5.get0 e8) (SqT.of upd_same) ?_ (e8.get0 hi5) hK3 hkl3 nd
        exact ⟨p7, p5, u, rfl, e9.tup (SqT.of upd_same), e8.tup hp5, Rp.ext (E5.trans e8.any) _ k3⟩
    | fx l m vs g args => cases hfo
    | tc vs g args => cases hfo
    | gs m ar g => cases hfo
theorem trn_fo {k : Str → Str} {ws : List Str} {f : Fm} (h : fo f = true) : fo (trn k ws f) = true := by
  cases f with
  | fx l m vs g args => cases h
  | tc vs g args => cases h
  | gs m ar g => cases h
  | _ => exact h
theorem fo_kid {f g : Fm} (h : fo f = true) (hg : g ∈ kids f) : fo g = true := by
  cases f with
  | rel nm args => cases hg
  | cmp c x y => cases hg
  | neg g0 => rw [List.mem_singleton.mp hg]; exact h
  | jn c fs => exact fos_all.mp h g hg
  | qu c vs g0 => rw [List.mem_singleton.mp hg]; exact h
  | fx l m vs g0 args => cases h
  | tc vs g0 args => cases h
  | gs m ar g0 => cases h
theorem trn_kids {k : Str → Str} {ws : List Str} (f : Fm) : kids (trn k ws f) = kids f := by
  cases f <;> rfl
theorem qns_app : ∀ {a b : List Fm}, qns (a ++ b) = qns a + qns b
  | [], b => by simp [qns]
  | f :: a, b => by
    show qn f + qns (a ++ b) = qn f + qns a + qns b
    rw [qns_app]; omega
theorem qn_kids {f : Fm} (h : fo f = true) : qn f = (ownV f).length + qns (kids f) := by
  cases f with
  | fx l m vs g args => cases h
  | tc vs g args => cases h
  | gs m ar g => cases h
  | rel _ _ => rfl
  | cmp _ _ _ => rfl
  | neg g => simp [qn, qns, kids, ownV]
  | jn c fs => simp [qn, qns, kids, ownV]
  | qu c vs g => simp [qn, qns, kids, ownV]
theorem rns_len : ∀ {fs zs : List Fm} {k : Str → Str} {U U' : List Str}, Rns fs k U zs U' → zs.length = fs.length
  | [], zs, k, U, U', h => by rw [h.1]
  | f :: fs, zs, k, U, U', ⟨g, U1, r, e, _, h⟩ => by rw [e]; exact congrArg Nat.succ (rns_len h)
theorem rn_of {f : Fm} {k : Str → Str} {U U' ws : List Str} {zs : List Fm} (h : fo f = true) (hw : ws.length = (ownV f).length) (hn : ws.Nodup) (hU : ∀ x ∈ ws, x ∉ U ∧ nmOk x) (r : Rns (kids f) (put k (ownV f) ws) (U ++ ws) zs U') : Rn f k U (rb (trn k ws f) zs) U' := by
  have w0 : ownV f = [] → ws = [] ∧ put k (ownV f) ws = k ∧ U ++ ws = U := fun e => by
    rw [e] at hw ⊢
    have : ws = [] := List.length_eq_zero_iff.mp hw
    rw [this]
    exact ⟨rfl, put_nil _ _, List.append_nil _⟩
  cases f with
  | fx l m vs g args => cases h
  | tc vs g args => cases h
  | gs m ar g => cases h
  | rel nm args =>
    obtain ⟨a, b, c⟩ := w0 rfl
    obtain ⟨z1, z2⟩ := r
    rw [c] at z2
    subst z1
    exact ⟨rfl, z2⟩
  | cmp lt x y =>
    obtain ⟨a, b, c⟩ := w0 rfl
    obtain ⟨z1, z2⟩ := r
    rw [c] at z2
    subst z1
    exact ⟨rfl, z2⟩
  | neg g =>
    obtain ⟨a, b, c⟩ := w0 rfl
    rw [b, c] at r
    obtain ⟨g', U1, r', e, h1, e2, e3⟩ := r
    subst e e2 e3
    exact ⟨g', rfl, h1⟩
  | jn cc fs =>
    obtain ⟨a, b, c⟩ := w0 rfl
    rw [b, c] at r
    exact ⟨zs, rfl, r⟩
  | qu c vs g =>
    obtain ⟨g', U1, r', e, h1, e2, e3⟩ := r
    subst e e2 e3
    exact ⟨ws, g', rfl, ⟨hw, hn, hU⟩, h1⟩
def spRen (K : PySem.W.Frag) (n : Nat) : L2.Sp := fun vs H Q _ => ∃ f v kd kk k fr dx d m kvs U s0 b, vs = [v, .ref kd, .ref fr] ∧ Rp K H f v ∧ Wf s0 b f ∧ fo f = true ∧ dp f ≤ n ∧ H kd = some (.dK kk) ∧ Kd k kk ∧ kk.length ≤ U.length ∧ kd ≠ d ∧ Fr K H fr dx d m kvs U ∧ U.length + qn f ≤ 60 ∧
  ∀ g U' v' H' m' kvs', Rn f k U g U' → Ext [fr, d] H H' → Fr K H' fr dx d m' kvs' U' → U'.length = U.length + qn f → Rp K H' g v' → Q v' H'
theorem sc_renamed : FnScope ["formula", "known", "fresh", "turned", "inside", "part"] ["formula", "known", "fresh"] (defScope s_renamed) := ⟨rfl, rfl, rfl, by decide +kernel, rfl, by decide +kernel, by decide +kernel⟩
theorem hs_renamed (T : Tx w K mg) (D : Dn K mg "renamed" s_renamed f) (h_with_own : Hs P w K mg base CX0 2 "with_own" ["formula", "known", "fresh"] (spWith K)) (h_inner : Hs P w K mg base CX0 1 "inner" ["formula"] (spInner K)) (h_rebuilt : Hs P w K mg base CX0 1 "rebuilt" ["formula", "parts"] (spRebuilt K)) :
    ∀ n, Hs P w K mg base CX0 (2 + n + 1) "renamed" ["formula", "known", "fresh"] (spRen K n) := by
  intro n
  induction n with
  | zero =>
    refine Hs.of D sc_renamed (fun vs H Q E h => ?_) (fun _ _ _ _ _ _ us hl => match us, hl with | [_, _, _], _ => rfl) (fun cdv A outer s H vs Q E hr h => ?_)
    · obtain ⟨f, v, kd, kk, k, fr, dx, d, m, kvs, U, s0, b, rfl, _⟩ := h
      rfl
    obtain ⟨f, v, kd, kk, k, fr, dx, d, m, kvs, U, s0, b, rfl, _, _, _, h, _⟩ := h
    exact absurd (dp_pos f) (by omega)
  | succ n ih =>
    have h_renamed := ih
    refine Hs.of D sc_renamed (fun vs H Q E h => ?_) (fun _ _ _ _ _ _ us hl => match us, hl with | [_, _, _], _ => rfl) (fun cdv A outer s H vs Q E hr h => ?_)
    · obtain ⟨f, v, kd, kk, k, fr, dx, d, m, kvs, U, s0, b, rfl, _⟩ := h
      rfl
    obtain ⟨f, v, kd, kk, k, fr, dx, d, m, kvs, U, s0, b, rfl, hf, wf, hfo, hn, hk, hK, hkl, hkd, F, hU, q⟩ := h
    refine ⟨_, PSs.nox (pss_cons (ps_asg (pe_h h_with_own (hr.mono (by omega)) rfl pass0 (pa_cons (pv 0) (pa_cons (pv 1) (pa_cons (pv 2) pa_nil)))) (pg_tup rfl (pgs_cons (pg_name (i := 3) sc_renamed.nd rfl (by first | exact Or.inl rfl | exact Or.inr rfl)) (pgs_cons (pg_name (i := 4) sc_renamed.nd rfl (by first | exact Or.inl rfl | exact Or.inr rfl)) pgs_nil))))
      (pss_one (ps_ret (pe_h h_rebuilt (hr.mono (by omega)) rfl pass0 (pa_cons (pv 3) (pa_cons (pe_lc (own := [("part", 5)]) (g := gName 5) rfl sc_renamed.nd (pi_tup (pe_h h_inner (hr.mono (by omega)) rfl pass0 (pa_cons (pv 0) pa_nil))) (blkOk_by (own := [("part", 5)]) (N := ["formula", "known", "fresh", "turned", "inside", "part"]) (sc := defScope s_renamed) (by decide +kernel)) (fun _ _ _ _ _ => pg_name (i := 5) sc_renamed.nd rfl (Or.inl rfl)) (fun _ _ _ _ _ => pts_nil) (fun _ _ _ _ _ => (pe_h h_renamed (hr.mono (by omega)) rfl pass0 (pa_cons (pv 5) (pa_cons (pv 4) (pa_cons (pv 2) pa_nil)))))) pa_nil)))))), ?_⟩
    have hq := qn_kids hfo
    refine ⟨_, rfl, _, rfl, _, rfl, f, v, kd, kk, k, fr, dx, d, m, kvs, U, s0, b, rfl, hf, wf, hfo, hk, hK, hkl, hkd, F, by omega, fun ws pr tv ins kk' H1 m1 kvs1 hwl hwn hwU e1 F1 hpr htv hins hK1 hkl1 hid => ?_⟩
    refine ⟨_, _, rfl, hpr, rfl, _, _, rfl, _, _, rfl, rfl, ?_⟩
    refine ⟨_, rfl, ?_⟩
    refine ⟨_, rfl, _, _, rfl, Rp.ext e1 f hf, fun p us H5 e5 hp hs => ?_⟩
    have F5 := F1.get0 e5
    have hins5 := e5.get0 hins
    have nf : ins ≠ fr := ne_of hins F1.at_ (by intro z; cases z)
    refine ⟨_, rfl, ⟨_, hp⟩, fun D hD => ?_⟩
    have hul : us.length ≤ 1000 := by
      rw [Rps.length hs]
      cases f with
      | rel _ _ => exact Nat.zero_le _
      | cmp _ _ _ => exact Nat.zero_le _
      | neg _ => exact (by decide : 1 ≤ 1000)
      | jn c fs => exact Nat.le_trans wf.1 (by decide)
      | qu _ _ _ => exact (by decide : 1 ≤ 1000)
      | fx l m vs g args => cases hfo
      | tc vs g args => cases hfo
      | gs m ar g => cases hfo
    refine lc_parts hp hs (S := [fr, d]) (fun dn H' => ∃ zs vz m' kvs' U', H' D = some (.lst vz) ∧ Rps K H' zs vz ∧ Rns dn (put k (ownV f) ws) (U ++ ws) zs U' ∧ Fr K H' fr dx d m' kvs' U' ∧ U'.length = (U ++ ws).length + qns dn ∧ Ext [fr, d] H5 H')
      ⟨[], [], m1, kvs1, U ++ ws, upd_same, rfl, ⟨rfl, rfl⟩, F5.get0 (.new hD), rfl, .new hD⟩ (fun dn H' ⟨_, _, _, _, _, _, _, _, _, _, e⟩ => e) (fun dn x r u H' hk2 hx ⟨zs, vz, m', kvs', U', hDz, hz, hR, F', hUl, e6⟩ => ?_) (fun H' ⟨zs, vz, m', kvs', U', hDz, hz, hR, F', hUl, e6⟩ => ?_)
    · have hxk : x ∈ kids f := by rw [hk2]; simp
      obtain ⟨b', wfx⟩ := wf_kid wf hxk
      have hdx := dp_kid hxk
      have hqs : qns (kids f) = qns dn + (qn x + qns r) := by rw [hk2, qns_app]; rfl
      have hD1 : D ≠ fr := (ne_of_none F5.at_ hD).symm
      have hD2 : D ≠ d := (ne_of_none F5.fd hD).symm
      have hlz : vz.length ≤ us.length := by
        rw [Rps.length hz, rns_len hR, Rps.length hs, hk2, List.length_append]
        omega
      have hUw : (U ++ ws).length = U.length + ws.length := List.length_append
      refine ⟨rfl, ?_⟩
      refine ⟨_, rfl, _, rfl, _, rfl, x, _, ins, kk', _, fr, dx, d, m', kvs', U', s0, b', rfl, hx, wfx, fo_kid hfo hxk, by omega, e6.get hins5 (by simp [nf, hid]), hK1, by omega, hid, F', by omega, fun g U2 v2 H7 m7 kvs7 hRn e7 F7 hl7 hv7 => ?_⟩
      have hD7 : H7 D = some (.lst vz) := e7.get hDz (by simp [hD1, hD2])
      have e8 : Ext [D] H7 (upd H7 D (.lst (vz ++ [v2]))) := Ext.put .refl (by simp) hD7 rfl
      refine ⟨vz, hD7, big_sz (by omega), zs ++ [g], vz ++ [v2], m7, kvs7, U2, upd_same, Rps.snoc (Rps.ext (e7.mono (T := [fr, d]) (by simp)) hz |> Rps.ext e8) (Rp.ext e8 g hv7), rns_snoc hR hRn, F7.get e8 (by simp [hD1.symm]) (by simp [hD2.symm]), ?_, (e6.trans e7).mut hD⟩
      rw [qns_app]
      show U2.length = (U ++ ws).length + (qns dn + (qn x + 0))
      omega
    · have hzl := rns_len hR
      have hlz : vz.length ≤ 1000 := by
        rw [Rps.length hz, hzl, ← Rps.length hs]
        exact hul
      refine ⟨_, _, D, vz, zs, rfl, Rp.ext (e5.any.trans e6) _ htv, trn_fo hfo, .inl (.inl hDz), hz, by rw [trn_kids]; exact hzl, hlz, fun v' H8 e8 hv' => ?_⟩
      refine q _ U' v' H8 m' kvs' (rn_of hfo hwl hwn hwU hR) ((e1.trans e5.any).trans (e6.trans e8.any)) (F'.get0 e8) ?_ hv'
      rw [hUl, List.length_append]
      omega
end
end Say
set_option maxRecDepth 100000
set_option maxHeartbeats 4000000
/-! the prenex form -/
namespace Say
open PySem PySem.Spec PyProof.Rows L2 Fm
section
variable {P : Program} {w : World} {K : PySem.W.Frag} {mg : Str → Option Value} {base : Heap} {f : Addr} {B : Nat}
def spSized (K : PySem.W.Frag) : L2.Sp := fun vs H Q _ => ∃ f v s0, vs = [v] ∧ Rp K H f v ∧ Wf s0 (fun _ => none) f ∧ pt f ≤ 2000 ∧ dp f ≤ 40 ∧ ∀ H', Ext [] H H' → Q v H'
theorem sc_sized : FnScope ["formula"] ["formula"] (defScope s_sized) := ⟨rfl, rfl, rfl, by decide +kernel, rfl, by decide +kernel, by decide +kernel⟩
theorem hs_sized (T : Tx w K mg) (D : Dn K mg "sized" s_sized f) (h_looked : Hs P w K mg base CX0 46 "looked" ["formula"] (spLooked K)) : Hs P w K mg base CX0 47 "sized" ["formula"] (spSized K) := by
  refine Hs.of D sc_sized (fun vs H Q E h => ?_) (fun _ _ _ _ _ _ us hl => match us, hl with | [_], _ => rfl) (fun cdv A outer s H vs Q E hr h => ?_)
  · obtain ⟨f, v, s0, rfl, _⟩ := h
    rfl
  obtain ⟨f, v, s0, rfl, hf, wf, hp, hd, q⟩ := h
  refine ⟨_, PSs.nox (pss_cons (ps_try_thru0 (pss_one (ps_expr (pe_h h_looked (hr.mono (by omega)) rfl pass0 (pa_cons (pv 0) pa_nil)))))
      (pss_one (ps_ret (pv 0)))), ?_⟩
  exact ⟨_, rfl, _, _, _, rfl, hf, wf, hp, hd, fun H' v' e => ⟨_, rfl, q H' e⟩⟩
def spMoved (K : PySem.W.Frag) (n : Nat) : L2.Sp := fun vs H Q _ => ∃ f v e s0 b, vs = [v, .bl e] ∧ Rp K H f v ∧ Wf s0 b f ∧ fo f = true ∧ dp f ≤ n ∧ ∀ v' H', Ext [] H H' → Rp K H' (mv e f) v' → Q v' H'
theorem sc_moved : FnScope ["formula", "even", "word", "turned", "part", "kept"] ["formula", "even"] (defScope s_moved) := ⟨rfl, rfl, rfl, by decide +kernel, rfl, by decide +kernel, by decide +kernel⟩
theorem hs_moved (T : Tx w K mg) (D : Dn K mg "moved" s_moved f) (h_inner : Hs P w K mg base CX0 1 "inner" ["formula"] (spInner K)) (h_rebuilt : Hs P w K mg base CX0 1 "rebuilt" ["formula", "parts"] (spRebuilt K)) :
    ∀ n, Hs P w K mg base CX0 (1 + n + 1) "moved" ["formula", "even"] (spMoved K n) := by
  intro n
  induction n with
  | zero =>
    refine Hs.of D sc_moved (fun vs H Q E h => ?_) (fun _ _ _ _ _ _ us hl => match us, hl with | [_, _], _ => rfl) (fun cdv A outer s H vs Q E hr h => ?_)
    · obtain ⟨f, v, e, s0, b, rfl, _⟩ := h
      rfl
    obtain ⟨f, v, e, s0, b, rfl, _, _, _, h, _⟩ := h
    exact absurd (dp_pos f) (by omega)
  | succ n ih =>
    have h_moved := ih
    refine Hs.of D sc_moved (fun vs H Q E h => ?_) (fun _ _ _ _ _ _ us hl => match us, hl with | [_, _], _ => rfl) (fun cdv A outer s H vs Q E hr h => ?_)
    · obtain ⟨f, v, e, s0, b, rfl, _⟩ := h
      rfl
    obtain ⟨f, v, e, s0, b, rfl, hf, wf, hfo, hn, q⟩ := h
    refine ⟨_, PSs.nox (pss_cons (ps_set (i := 2) sc_moved.nd rfl (by first | exact Or.inl rfl | exact Or.inr rfl) (pe_ix ix_tup (pv 0) pe_int (fun _ _ => rfl)))
      (pss_cons (ps_if (pt_cmpR op_eq (pv 2) pe_str (nomark _)) (pss_one (ps_ret (pe_h h_moved (hr.mono (by omega)) rfl pass0 (pa_cons (pe_ix ix_tup (pv 0) pe_int (fun _ _ => rfl)) (pa_cons (pe_not (pv 1)) pa_nil))))) pss_nil)
      (pss_cons (ps_if (pt_cmpR (op_in_kd T.dual.2.choose_spec.choose_spec) (pv 2) (pe_glob (v := .ref (He.ga K "DUAL")) rfl T.dual.1 rfl) rfl) (pss_cons (ps_set (i := 3) sc_moved.nd rfl (by first | exact Or.inl rfl | exact Or.inr rfl) (pe_h h_rebuilt (hr.mono (by omega)) rfl pass0 (pa_cons (pv 0) (pa_cons (pe_lc (own := [("part", 4)]) (g := gName 4) rfl sc_moved.nd (pi_tup (pe_h h_inner (hr.mono (by omega)) rfl pass0 (pa_cons (pv 0) pa_nil))) (blkOk_by (own := [("part", 4)]) (N := ["formula", "even", "word", "turned", "part", "kept"]) (sc := defScope s_moved) (by decide +kernel)) (fun _ _ _ _ _ => pg_name (i := 4) sc_moved.nd rfl (Or.inl rfl)) (fun _ _ _ _ _ => pts_nil) (fun _ _ _ _ _ => (pe_h h_moved (hr.mono (by omega)) rfl pass0 (pa_cons (pv 4) (pa_cons (pv 1) pa_nil))))) pa_nil))))
      (pss_cons (ps_if (pt_val (pv 1)) (pss_one (ps_ret (pv 3))) pss_nil)
      (pss_one (ps_ret (pe_op op_cat1 (pe_tup (pa_cons (pe_ix ix_kdict (pe_glob (v := .ref (He.ga K "DUAL")) rfl T.dual.1 rfl) (pv 2) (fun _ _ => rfl)) pa_nil)) (pe_slice sl_tupA (pv 3) (po_some pe_int) po_none)))))) pss_nil)
      (pss_cons (ps_set (i := 5) sc_moved.nd rfl (by first | exact Or.inl rfl | exact Or.inr rfl) (pe_h h_rebuilt (hr.mono (by omega)) rfl pass0 (pa_cons (pv 0) (pa_cons (pe_lc (own := [("part", 4)]) (g := gName 4) rfl sc_moved.nd (pi_tup (pe_h h_inner (hr.mono (by omega)) rfl pass0 (pa_cons (pv 0) pa_nil))) (blkOk_by (own := [("part", 4)]) (N := ["formula", "even", "word", "turned", "part", "kept"]) (sc := defScope s_moved) (by decide +kernel)) (fun _ _ _ _ _ => pg_name (i := 4) sc_moved.nd rfl (Or.inl rfl)) (fun _ _ _ _ _ => pts_nil) (fun _ _ _ _ _ => (pe_h h_moved (hr.mono (by omega)) rfl pass0 (pa_cons (pv 4) (pa_cons pe_bl pa_nil))))) pa_nil))))
      (pss_cons (ps_if (pt_val (pv 1)) (pss_one (ps_ret (pv 5))) pss_nil)
      (pss_one (ps_ret (pe_tup (pa_cons pe_str (pa_cons (pv 5) pa_nil)))))))))), ?_⟩
    have hkl : (kids f).length ≤ 1000 := by
      cases f with
      | rel _ _ => exact Nat.zero_le _
      | cmp _ _ _ => exact Nat.zero_le _
      | neg _ => exact (by decide : 1 ≤ 1000)
      | jn c fs => exact Nat.le_trans wf.1 (by decide)
      | qu _ _ _ => exact (by decide : 1 ≤ 1000)
      | fx l m vs g args => cases hfo
      | tc vs g args => cases hfo
      | gs m ar g => cases hfo
    obtain ⟨es, kn, KD⟩ := T.dual.2
    have hf0 := hf
    obtain ⟨a, xs, rfl, hat⟩ := Rp.at f hf
    refine ⟨_, rfl, _, _, _, _, rfl, rfl, hat, at_zero, ?_⟩
    cases f with
    | rel nm args =>
      refine ⟨_, rfl, rfl, _, rfl, ifF (decide_eq_false fun z => absurd (V.str.inj z : ("rel" : Str) = "not") (by decide +kernel)) ?_⟩
      refine ⟨_, rfl, _, _, rfl, rfl, T.dualN "rel" (by simp), _, rfl, ifF rfl ?_⟩
      generalize hg : rel nm args = f0 at *
      refine ⟨_, rfl, _, rfl, _, _, rfl, hf, fun p us H5 e5 hp hs => ?_⟩
      refine ⟨_, rfl, ⟨_, hp⟩, fun D hD => ?_⟩
      refine lc_parts hp hs (S := []) (fun dn H' => ∃ vz, H' D = some (.lst vz) ∧ Rps K H' (dn.map (mv true)) vz ∧ Ext [] H5 H') ⟨[], upd_same, rfl, .new hD⟩ (fun dn H' ⟨_, _, _, e⟩ => e) (fun dn x r u H' hk2 hx ⟨vz, hDz, hz, e6⟩ => ?_) (fun H' ⟨vz, hDz, hz, e6⟩ => ?_)
      · have hxk : x ∈ kids f0 := by rw [hk2]; simp
        obtain ⟨b', wfx⟩ := wf_kid wf hxk
        have hdx := dp_kid hxk
        have hlz : vz.length ≤ 1000 := by
          rw [Rps.length hz, List.length_map]
          have := congrArg List.length hk2
          rw [List.length_append] at this
          omega
        refine ⟨rfl, ?_⟩
        refine ⟨_, rfl, x, _, true, s0, b', rfl, hx, wfx, fo_kid hfo hxk, by omega, fun v2 H7 e7 hv7 => ?_⟩
        have hD7 : H7 D = some (.lst vz) := e7.get0 hDz
        have e8 : Ext [D] H7 (upd H7 D (.lst (vz ++ [v2]))) := Ext.put .refl (by simp) hD7 rfl
        refine ⟨vz, hD7, big_sz (by omega), vz ++ [v2], upd_same, ?_, (e6.trans e7).mut hD⟩
        rw [List.map_append]
        exact Rps.snoc (Rps.ext (e7.mono (T := []) (by simp)) hz |> Rps.ext e8) (Rp.ext e8 _ hv7)
      · have hlz : vz.length ≤ 1000 := by
          rw [Rps.length hz, List.length_map]
          omega
        refine ⟨f0, _, D, vz, (kids f0).map (mv true), rfl, Rp.ext (e5.trans e6) _ hf, hfo, .inl (.inl hDz), hz, List.length_map _, hlz, fun v' H8 e8 hv' => ?_⟩
        have E8 := e5.trans (e6.trans e8)
        have hr : rb f0 ((kids f0).map (mv true)) = f0 := by rw [← hg]; rfl
        rw [hr] at hv'
        cases e with
        | true =>
          refine ⟨_, rfl, _, rfl, ifT rfl ?_⟩
          exact ⟨_, rfl, q _ _ E8 (by rw [← hg] at hv' ⊢; exact hv')⟩
        | false =>
          refine ⟨_, rfl, _, rfl, ifF rfl ?_⟩
          refine ⟨_, rfl, sz 2 rfl, fun p9 hp9 => ?_⟩
          refine q _ _ (E8.add hp9) ?_
          rw [← hg] at hv' ⊢
          exact ⟨p9, v', rfl, SqT.of upd_same, Rp.ext (.new (S := []) hp9) _ hv'⟩
    | cmp c x y =>
      cases c with
      | false =>
        refine ⟨_, rfl, rfl, _, rfl, ifF (decide_eq_false fun z => absurd (V.str.inj z : ("eq" : Str) = "not") (by decide +kernel)) ?_⟩
        refine ⟨_, rfl, _, _, rfl, rfl, T.dualN "eq" (by simp), _, rfl, ifF rfl ?_⟩
        generalize hg : cmp false x y = f0 at *
        refine ⟨_, rfl, _, rfl, _, _, rfl, hf, fun p us H5 e5 hp hs => ?_⟩
        refine ⟨_, rfl, ⟨_, hp⟩, fun D hD => ?_⟩
        refine lc_parts hp hs (S := []) (fun dn H' => ∃ vz, H' D = some (.lst vz) ∧ Rps K H' (dn.map (mv true)) vz ∧ Ext [] H5 H') ⟨[], upd_same, rfl, .new hD⟩ (fun dn H' ⟨_, _, _, e⟩ => e) (fun dn x r u H' hk2 hx ⟨vz, hDz, hz, e6⟩ => ?_) (fun H' ⟨vz, hDz, hz, e6⟩ => ?_)
        · have hxk : x ∈ kids f0 := by rw [hk2]; simp
          obtain ⟨b', wfx⟩ := wf_kid wf hxk
          have hdx := dp_kid hxk
          have hlz : vz.length ≤ 1000 := by
            rw [Rps.length hz, List.length_map]
            have := congrArg List.length hk2
            rw [List.length_append] at this
            omega
          refine ⟨rfl, ?_⟩
          refine ⟨_, rfl, x, _, true, s0, b', rfl, hx, wfx, fo_kid hfo hxk, by omega, fun v2 H7 e7 hv7 => ?_⟩
          have hD7 : H7 D = some (.lst vz) := e7.get0 hDz
          have e8 : Ext [D] H7 (upd H7 D (.lst (vz ++ [v2]))) := Ext.put .refl (by simp) hD7 rfl
          refine ⟨vz, hD7, big_sz (by omega), vz ++ [v2], upd_same, ?_, (e6.trans e7).mut hD⟩
          rw [List.map_append]
          exact Rps.snoc (Rps.ext (e7.mono (T := []) (by simp)) hz |> Rps.ext e8) (Rp.ext e8 _ hv7)
        · have hlz : vz.length ≤ 1000 := by
            rw [Rps.length hz, List.length_map]
            omega
          refine ⟨f0, _, D, vz, (kids f0).map (mv true), rfl, Rp.ext (e5.trans e6) _ hf, hfo, .inl (.inl hDz), hz, List.length_map _, hlz, fun v' H8 e8 hv' => ?_⟩
          have E8 := e5.trans (e6.trans e8)
          have hr : rb f0 ((kids f0).map (mv true)) = f0 := by rw [← hg]; rfl
          rw [hr] at hv'
          cases e with
          | true =>
            refine ⟨_, rfl, _, rfl, ifT rfl ?_⟩
            exact ⟨_, rfl, q _ _ E8 (by rw [← hg] at hv' ⊢; exact hv')⟩
          | false =>
            refine ⟨_, rfl, _, rfl, ifF rfl ?_⟩
            refine ⟨_, rfl, sz 2 rfl, fun p9 hp9 => ?_⟩
            refine q _ _ (E8.add hp9) ?_
            rw [← hg] at hv' ⊢
            exact ⟨p9, v', rfl, SqT.of upd_same, Rp.ext (.new (S := []) hp9) _ hv'⟩
      | true =>
        refine ⟨_, rfl, rfl, _, rfl, ifF (decide_eq_false fun z => absurd (V.str.inj z : ("less" : Str) = "not") (by decide +kernel)) ?_⟩
        refine ⟨_, rfl, _, _, rfl, rfl, T.dualN "less" (by simp), _, rfl, ifF rfl ?_⟩
        generalize hg : cmp true x y = f0 at *
        refine ⟨_, rfl, _, rfl, _, _, rfl, hf, fun p us H5 e5 hp hs => ?_⟩
        refine ⟨_, rfl, ⟨_, hp⟩, fun D hD => ?_⟩
        refine lc_parts hp hs (S := []) (fun dn H' => ∃ vz, H' D = some (.lst vz) ∧ Rps K H' (dn.map (mv true)) vz ∧ Ext [] H5 H') ⟨[], upd_same, rfl, .new hD⟩ (fun dn H' ⟨_, _, _, e⟩ => e) (fun dn x r u H' hk2 hx ⟨vz, hDz, hz, e6⟩ => ?_) (fun H' ⟨vz, hDz, hz, e6⟩ => ?_)
        · have hxk : x ∈ kids f0 := by rw [hk2]; simp
          obtain ⟨b', wfx⟩ := wf_kid wf hxk
          have hdx := dp_kid hxk
          have hlz : vz.length ≤ 1000 := by
            rw [Rps.length hz, List.length_map]
            have := congrArg List.length hk2
            rw [List.length_append] at this
            omega
          refine ⟨rfl, ?_⟩
          refine ⟨_, rfl, x, _, true, s0, b', rfl, hx, wfx, fo_kid hfo hxk, by omega, fun v2 H7 e7 hv7 => ?_⟩
          have hD7 : H7 D = some (.lst vz) := e7.get0 hDz
          have e8 : Ext [D] H7 (upd H7 D (.lst (vz ++ [v2]))) := Ext.put .refl (by simp) hD7 rfl
          refine ⟨vz, hD7, big_sz (by omega), vz ++ [v2], upd_same, ?_, (e6.trans e7).mut hD⟩
          rw [List.map_append]
          exact Rps.snoc (Rps.ext (e7.mono (T := []) (by simp)) hz |> Rps.ext e8) (Rp.ext e8 _ hv7)
        · have hlz : vz.length ≤ 1000 := by
            rw [Rps.length hz, List.length_map]
            omega
          refine ⟨f0, _, D, vz, (kids f0).map (mv true), rfl, Rp.ext (e5.trans e6) _ hf, hfo, .inl (.inl hDz), hz, List.length_map _, hlz, fun v' H8 e8 hv' => ?_⟩
          have E8 := e5.trans (e6.trans e8)
          have hr : rb f0 ((kids f0).map (mv true)) = f0 := by rw [← hg]; rfl
          rw [hr] at hv'
          cases e with
          | true =>
            refine ⟨_, rfl, _, rfl, ifT rfl ?_⟩
            exact ⟨_, rfl, q _ _ E8 (by rw [← hg] at hv' ⊢; exact hv')⟩
          | false =>
            refine ⟨_, rfl, _, rfl, ifF rfl ?_⟩
            refine ⟨_, rfl, sz 2 rfl, fun p9 hp9 => ?_⟩
            refine q _ _ (E8.add hp9) ?_
            rw [← hg] at hv' ⊢
            exact ⟨p9, v', rfl, SqT.of upd_same, Rp.ext (.new (S := []) hp9) _ hv'⟩
    | neg g =>
      obtain ⟨a', u, e', k1, k2⟩ := hf0
      cases e'
      refine ⟨_, rfl, rfl, _, rfl, ifT (decide_eq_true rfl) ?_⟩
      refine ⟨_, rfl, _, _, _, _, rfl, rfl, k1, rfl, _, rfl, _, rfl, g, _, !e, s0, b, rfl, k2, wf, hfo, by have := dp_kid (f := neg g) (g := g) (by simp [kids]); omega, fun v' H' e1 hv => q v' H' e1 ?_⟩
      exact hv
    | jn c fs =>
      cases c with
      | false =>
        refine ⟨_, rfl, rfl, _, rfl, ifF (decide_eq_false fun z => absurd (V.str.inj z : ("or" : Str) = "not") (by decide +kernel)) ?_⟩
        obtain ⟨du, hdu, hdr⟩ := T.dualV ("or", "and") (by decide +kernel)
        refine ⟨_, rfl, _, _, rfl, rfl, hdu, _, rfl, ifT rfl ?_⟩
        generalize hg : jn false fs = f0 at *
        refine ⟨_, rfl, _, rfl, _, _, rfl, hf, fun p us H5 e5 hp hs => ?_⟩
        refine ⟨_, rfl, ⟨_, hp⟩, fun D hD => ?_⟩
        refine lc_parts hp hs (S := []) (fun dn H' => ∃ vz, H' D = some (.lst vz) ∧ Rps K H' (dn.map (mv e)) vz ∧ Ext [] H5 H') ⟨[], upd_same, rfl, .new hD⟩ (fun dn H' ⟨_, _, _, e⟩ => e) (fun dn x r u H' hk2 hx ⟨vz, hDz, hz, e6⟩ => ?_) (fun H' ⟨vz, hDz, hz, e6⟩ => ?_)
        · have hxk : x ∈ kids f0 := by rw [hk2]; simp
          obtain ⟨b', wfx⟩ := wf_kid wf hxk
          have hdx := dp_kid hxk
          have hlz : vz.length ≤ 1000 := by
            rw [Rps.length hz, List.length_map]
            have := congrArg List.length hk2
            rw [List.length_append] at this
            omega
          refine ⟨rfl, ?_⟩
          refine ⟨_, rfl, _, rfl, x, _, e, s0, b', rfl, hx, wfx, fo_kid hfo hxk, by omega, fun v2 H7 e7 hv7 => ?_⟩
          have hD7 : H7 D = some (.lst vz) := e7.get0 hDz
          have e8 : Ext [D] H7 (upd H7 D (.lst (vz ++ [v2]))) := Ext.put .refl (by simp) hD7 rfl
          refine ⟨vz, hD7, big_sz (by omega), vz ++ [v2], upd_same, ?_, (e6.trans e7).mut hD⟩
          rw [List.map_append]
          exact Rps.snoc (Rps.ext (e7.mono (T := []) (by simp)) hz |> Rps.ext e8) (Rp.ext e8 _ hv7)
        · have hlz : vz.length ≤ 1000 := by
            rw [Rps.length hz, List.length_map]
            omega
          refine ⟨f0, _, D, vz, (kids f0).map (mv e), rfl, Rp.ext (e5.trans e6) _ hf, hfo, .inl (.inl hDz), hz, List.length_map _, hlz, fun v' H8 e8 hv' => ?_⟩
          have E8 := e5.trans (e6.trans e8)
          cases e with
          | true =>
            have hv2 : Rp K H8 (jn false (fs.map (mv true))) v' := by rw [← hg] at hv'; exact hv'
            refine ⟨_, rfl, _, rfl, ifT rfl ⟨_, rfl, q _ _ E8 ?_⟩⟩
            rw [← hg]
            show Rp K _ (jn false (mvs true fs)) _
            rw [mvs_map]
            exact hv2
          | false =>
            have hv2 : Rp K H8 (jn false (fs.map (mv false))) v' := by rw [← hg] at hv'; exact hv'
            obtain ⟨a2, b2, us2, e', j1, j2, j3⟩ := hv2
            cases e'
            refine ⟨_, rfl, _, rfl, ifF rfl ?_⟩
            refine ⟨_, rfl, _, "or", .str "and", rfl, (by rw [← hg]; rfl), ⟨es, kn, du, KD.at_, KD.lit, hdu, hdr⟩, sz 1 rfl, fun p6 hp6 => ?_⟩
            have e6b : Ext [] H8 (upd H8 p6 (.tup [.str "and"])) := .new hp6
            refine ⟨_, rfl, 1, rfl, _, _, rfl, e6b.tup j1, fun z => absurd (show (1 : Nat) = 0 from z.1) (by decide), fun _ p7 hp7 => ?_⟩
            have e7b : Ext [] H8 (upd (upd H8 p6 (.tup [.str "and"])) p7 (.tup [.ref b2])) := e6b.add hp7
            refine ⟨_, _, [.str "and"], [.ref b2], rfl, rfl, (Ext.new (S := []) hp7).tup (SqT.of upd_same), SqT.of upd_same, by show 1 + 1 ≤ 1000; decide, fun p8 H9 e9 hp8 => ?_⟩
            have X8 : Ext [] H8 H9 := e7b.trans e9
            refine q _ _ (E8.trans X8) ?_
            rw [← hg]
            show Rp K _ (jn true (mvs false fs)) _
            rw [mvs_map]
            exact ⟨p8, b2, us2, rfl, hp8, X8.tup j2, Rps.ext X8 j3⟩
      | true =>
        refine ⟨_, rfl, rfl, _, rfl, ifF (decide_eq_false fun z => absurd (V.str.inj z : ("and" : Str) = "not") (by decide +kernel)) ?_⟩
        obtain ⟨du, hdu, hdr⟩ := T.dualV ("and", "or") (by decide +kernel)
        refine ⟨_, rfl, _, _, rfl, rfl, hdu, _, rfl, ifT rfl ?_⟩
        generalize hg : jn true fs = f0 at *
        refine ⟨_, rfl, _, rfl, _, _, rfl, hf, fun p us H5 e5 hp hs => ?_⟩
        refine ⟨_, rfl, ⟨_, hp⟩, fun D hD => ?_⟩
        refine lc_parts hp hs (S := []) (fun dn H' => ∃ vz, H' D = some (.lst vz) ∧ Rps K H' (dn.map (mv e)) vz ∧ Ext [] H5 H') ⟨[], upd_same, rfl, .new hD⟩ (fun dn H' ⟨_, _, _, e⟩ => e) (fun dn x r u H' hk2 hx ⟨vz, hDz, hz, e6⟩ => ?_) (fun H' ⟨vz, hDz, hz, e6⟩ => ?_)
        · have hxk : x ∈ kids f0 := by rw [hk2]; simp
          obtain ⟨b', wfx⟩ := wf_kid wf hxk
          have hdx := dp_kid hxk
          have hlz : vz.length ≤ 1000 := by
            rw [Rps.length hz, List.length_map]
            have := congrArg List.length hk2
            rw [List.length_append] at this
            omega
          refine ⟨rfl, ?_⟩
          refine ⟨_, rfl, _, rfl, x, _, e, s0, b', rfl, hx, wfx, fo_kid hfo hxk, by omega, fun v2 H7 e7 hv7 => ?_⟩
          have hD7 : H7 D = some (.lst vz) := e7.get0 hDz
          have e8 : Ext [D] H7 (upd H7 D (.lst (vz ++ [v2]))) := Ext.put .refl (by simp) hD7 rfl
          refine ⟨vz, hD7, big_sz (by omega), vz ++ [v2], upd_same, ?_, (e6.trans e7).mut hD⟩
          rw [List.map_append]
          exact Rps.snoc (Rps.ext (e7.mono (T := []) (by simp)) hz |> Rps.ext e8) (Rp.ext e8 _ hv7)
        · have hlz : vz.length ≤ 1000 := by
            rw [Rps.length hz, List.length_map]
            omega
          refine ⟨f0, _, D, vz, (kids f0).map (mv e), rfl, Rp.ext (e5.trans e6) _ hf, hfo, .inl (.inl hDz), hz, List.length_map _, hlz, fun v' H8 e8 hv' => ?_⟩
          have E8 := e5.trans (e6.trans e8)
          cases e with
          | true =>
            have hv2 : Rp K H8 (jn true (fs.map (mv true))) v' := by rw [← hg] at hv'; exact hv'
            refine ⟨_, rfl, _, rfl, ifT rfl ⟨_, rfl, q _ _ E8 ?_⟩⟩
            rw [← hg]
            show Rp K _ (jn true (mvs true fs)) _
            rw [mvs_map]
            exact hv2
          | false =>
            have hv2 : Rp K H8 (jn true (fs.map (mv false))) v' := by rw [← hg] at hv'; exact hv'
            obtain ⟨a2, b2, us2, e', j1, j2, j3⟩ := hv2
            cases e'
            refine ⟨_, rfl, _, rfl, ifF rfl ?_⟩
            refine ⟨_, rfl, _, "and", .str "or", rfl, (by rw [← hg]; rfl), ⟨es, kn, du, KD.at_, KD.lit, hdu, hdr⟩, sz 1 rfl, fun p6 hp6 => ?_⟩
            have e6b : Ext [] H8 (upd H8 p6 (.tup [.str "or"])) := .new hp6
            refine ⟨_, rfl, 1, rfl, _, _, rfl, e6b.tup j1, fun z => absurd (show (1 : Nat) = 0 from z.1) (by decide), fun _ p7 hp7 => ?_⟩
            have e7b : Ext [] H8 (upd (upd H8 p6 (.tup [.str "or"])) p7 (.tup [.ref b2])) := e6b.add hp7
            refine ⟨_, _, [.str "or"], [.ref b2], rfl, rfl, (Ext.new (S := []) hp7).tup (SqT.of upd_same), SqT.of upd_same, by show 1 + 1 ≤ 1000; decide, fun p8 H9 e9 hp8 => ?_⟩
            have X8 : Ext [] H8 H9 := e7b.trans e9
            refine q _ _ (E8.trans X8) ?_
            rw [← hg]
            show Rp K _ (jn false (mvs false fs)) _
            rw [mvs_map]
            exact ⟨p8, b2, us2, rfl, hp8, X8.tup j2, Rps.ext X8 j3⟩
    | qu c vs g =>
      cases c with
      | false =>
        refine ⟨_, rfl, rfl, _, rfl, ifF (decide_eq_false fun z => absurd (V.str.inj z : ("some" : Str) = "not") (by decide +kernel)) ?_⟩
        obtain ⟨du, hdu, hdr⟩ := T.dualV ("some", "all") (by decide +kernel)
        refine ⟨_, rfl, _, _, rfl, rfl, hdu, _, rfl, ifT rfl ?_⟩
        generalize hg : qu false vs g = f0 at *
        refine ⟨_, rfl, _, rfl, _, _, rfl, hf, fun p us H5 e5 hp hs => ?_⟩
        refine ⟨_, rfl, ⟨_, hp⟩, fun D hD => ?_⟩
        refine lc_parts hp hs (S := []) (fun dn H' => ∃ vz, H' D = some (.lst vz) ∧ Rps K H' (dn.map (mv e)) vz ∧ Ext [] H5 H') ⟨[], upd_same, rfl, .new hD⟩ (fun dn H' ⟨_, _, _, e⟩ => e) (fun dn x r u H' hk2 hx ⟨vz, hDz, hz, e6⟩ => ?_) (fun H' ⟨vz, hDz, hz, e6⟩ => ?_)
        · have hxk : x ∈ kids f0 := by rw [hk2]; simp
          obtain ⟨b', wfx⟩ := wf_kid wf hxk
          have hdx := dp_kid hxk
          have hlz : vz.length ≤ 1000 := by
            rw [Rps.length hz, List.length_map]
            have := congrArg List.length hk2
            rw [List.length_append] at this
            omega
          refine ⟨rfl, ?_⟩
          refine ⟨_, rfl, _, rfl, x, _, e, s0, b', rfl, hx, wfx, fo_kid hfo hxk, by omega, fun v2 H7 e7 hv7 => ?_⟩
          have hD7 : H7 D = some (.lst vz) := e7.get0 hDz
          have e8 : Ext [D] H7 (upd H7 D (.lst (vz ++ [v2]))) := Ext.put .refl (by simp) hD7 rfl
          refine ⟨vz, hD7, big_sz (by omega), vz ++ [v2], upd_same, ?_, (e6.trans e7).mut hD⟩
          rw [List.map_append]
          exact Rps.snoc (Rps.ext (e7.mono (T := []) (by simp)) hz |> Rps.ext e8) (Rp.ext e8 _ hv7)
        · have hlz : vz.length ≤ 1000 := by
            rw [Rps.length hz, List.length_map]
            omega
          refine ⟨f0, _, D, vz, (kids f0).map (mv e), rfl, Rp.ext (e5.trans e6) _ hf, hfo, .inl (.inl hDz), hz, List.length_map _, hlz, fun v' H8 e8 hv' => ?_⟩
          have E8 := e5.trans (e6.trans e8)
          cases e with
          | true =>
            have hv2 : Rp K H8 (qu false vs (mv true g)) v' := by rw [← hg] at hv'; exact hv'
            refine ⟨_, rfl, _, rfl, ifT rfl ⟨_, rfl, q _ _ E8 ?_⟩⟩
            rw [← hg]
            exact hv2
          | false =>
            have hv2 : Rp K H8 (qu false vs (mv false g)) v' := by rw [← hg] at hv'; exact hv'
            obtain ⟨a2, b2, u2, e', j1, j2, j3⟩ := hv2
            cases e'
            refine ⟨_, rfl, _, rfl, ifF rfl ?_⟩
            refine ⟨_, rfl, _, "some", .str "all", rfl, (by rw [← hg]; rfl), ⟨es, kn, du, KD.at_, KD.lit, hdu, hdr⟩, sz 1 rfl, fun p6 hp6 => ?_⟩
            have e6b : Ext [] H8 (upd H8 p6 (.tup [.str "all"])) := .new hp6
            refine ⟨_, rfl, 1, rfl, _, _, rfl, e6b.tup j1, fun z => absurd (show (1 : Nat) = 0 from z.1) (by decide), fun _ p7 hp7 => ?_⟩
            have e7b : Ext [] H8 (upd (upd H8 p6 (.tup [.str "all"])) p7 (.tup [.ref b2, u2])) := e6b.add hp7
            refine ⟨_, _, [.str "all"], [.ref b2, u2], rfl, rfl, (Ext.new (S := []) hp7).tup (SqT.of upd_same), SqT.of upd_same, by show 1 + 2 ≤ 1000; decide, fun p8 H9 e9 hp8 => ?_⟩
            have X8 : Ext [] H8 H9 := e7b.trans e9
            refine q _ _ (E8.trans X8) ?_
            rw [← hg]
            show Rp K _ (qu true vs (mv false g)) _
            exact ⟨p8, b2, u2, rfl, hp8, X8.tup j2, Rp.ext X8 _ j3⟩
      | true =>
        refine ⟨_, rfl, rfl, _, rfl, ifF (decide_eq_false fun z => absurd (V.str.inj z : ("all" : Str) = "not") (by decide +kernel)) ?_⟩
        obtain ⟨du, hdu, hdr⟩ := T.dualV ("all", "some") (by decide +kernel)
        refine ⟨_, rfl, _, _, rfl, rfl, hdu, _, rfl, ifT rfl ?_⟩
        generalize hg : qu true vs g = f0 at *
        refine ⟨_, rfl, _, rfl, _, _, rfl, hf, fun p us H5 e5 hp hs => ?_⟩
        refine ⟨_, rfl, ⟨_, hp⟩, fun D hD => ?_⟩
        refine lc_parts hp hs (S := []) (fun dn H' => ∃ vz, H' D = some (.lst vz) ∧ Rps K H' (dn.map (mv e)) vz ∧ Ext [] H5 H') ⟨[], upd_same, rfl, .new hD⟩ (fun dn H' ⟨_, _, _, e⟩ => e) (fun dn x r u H' hk2 hx ⟨vz, hDz, hz, e6⟩ => ?_) (fun H' ⟨vz, hDz, hz, e6⟩ => ?_)
        · have hxk : x ∈ kids f0 := by rw [hk2]; simp
          obtain ⟨b', wfx⟩ := wf_kid wf hxk
          have hdx := dp_kid hxk
          have hlz : vz.length ≤ 1000 := by
            rw [Rps.length hz, List.length_map]
            have := congrArg List.length hk2
            rw [List.length_append] at this
            omega
          refine ⟨rfl, ?_⟩
          refine ⟨_, rfl, _, rfl, x, _, e, s0, b', rfl, hx, wfx, fo_kid hfo hxk, by omega, fun v2 H7 e7 hv7 => ?_⟩
          have hD7 : H7 D = some (.lst vz) := e7.get0 hDz
          have e8 : Ext [D] H7 (upd H7 D (.lst (vz ++ [v2]))) := Ext.put .refl (by simp) hD7 rfl
          refine ⟨vz, hD7, big_sz (by omega), vz ++ [v2], upd_same, ?_, (e6.trans e7).mut hD⟩
          rw [List.map_append]
          exact Rps.snoc (Rps.ext (e7.mono (T := []) (by simp)) hz |> Rps.ext e8) (Rp.ext e8 _ hv7)
        · have hlz : vz.length ≤ 1000 := by
            rw [Rps.length hz, List.length_map]
            omega
          refine ⟨f0, _, D, vz, (kids f0).map (mv e), rfl, Rp.ext (e5.trans e6) _ hf, hfo, .inl (.inl hDz), hz, List.length_map _, hlz, fun v' H8 e8 hv' => ?_⟩
          have E8 := e5.trans (e6.trans e8)
          cases e with
          | true =>
            have hv2 : Rp K H8 (qu true vs (mv true g)) v' := by rw [← hg] at hv'; exact hv'
            refine ⟨_, rfl, _, rfl, ifT rfl ⟨_, rfl, q _ _ E8 ?_⟩⟩
            rw [← hg]
            exact hv2
          | false =>
            have hv2 : Rp K H8 (qu true vs (mv false g)) v' := by rw [← hg] at hv'; exact hv'
            obtain ⟨a2, b2, u2, e', j1, j2, j3⟩ := hv2
            cases e'
            refine ⟨_, rfl, _, rfl, ifF rfl ?_⟩
            refine ⟨_, rfl, _, "all", .str "some", rfl, (by rw [← hg]; rfl), ⟨es, kn, du, KD.at_, KD.lit, hdu, hdr⟩, sz 1 rfl, fun p6 hp6 => ?_⟩
            have e6b : Ext [] H8 (upd H8 p6 (.tup [.str "some"])) := .new hp6
            refine ⟨_, rfl, 1, rfl, _, _, rfl, e6b.tup j1, fun z => absurd (show (1 : Nat) = 0 from z.1) (by decide), fun _ p7 hp7 => ?_⟩
            have e7b : Ext [] H8 (upd (upd H8 p6 (.tup [.str "some"])) p7 (.tup [.ref b2, u2])) := e6b.add hp7
            refine ⟨_, _, [.str "some"], [.ref b2, u2], rfl, rfl, (Ext.new (S := []) hp7).tup (SqT.of upd_same), SqT.of upd_same, by show 1 + 2 ≤ 1000; decide, fun p8 H9 e9 hp8 => ?_⟩
            have X8 : Ext [] H8 H9 := e7b.trans e9
            refine q _ _ (E8.trans X8) ?_
            rw [← hg]
            show Rp K _ (qu false vs (mv false g)) _
            exact ⟨p8, b2, u2, rfl, hp8, X8.tup j2, Rp.ext X8 _ j3⟩
    | fx l m vs g args => cases hfo
    | tc vs g args => cases hfo
    | gs m ar g => cases hfo
end
end Say
set_option maxRecDepth 100000
set_option maxHeartbeats 4000000
/-! quantifiers outside -/
namespace Say
open PySem PySem.Spec PyProof.Rows L2 Fm
def qw : Bool → Str
  | true => "all"
  | false => "some"
section
variable (K : PySem.W.Frag) (H : Hp)
def Hr (h : Hd) (u : V) : Prop := ∃ a b, u = .ref a ∧ SqT K H a [.str (qw h.1), .ref b] ∧ SqT K H b (sv h.2)
def Hrs : List Hd → List V → Prop
  | [], us => us = []
  | h :: hs, us => ∃ u r, us = u :: r ∧ Hr K H h u ∧ Hrs hs r
end
section
variable {K : PySem.W.Frag} {S : List Addr} {H H1 : Hp}
theorem Hr.ext (x : Ext S H H1) {h : Hd} {u : V} (q : Hr K H h u) : Hr K H1 h u := by
  obtain ⟨a, b, e, h1, h2⟩ := q
  exact ⟨a, b, e, x.tup h1, x.tup h2⟩
theorem Hrs.ext (x : Ext S H H1) : ∀ {hs : List Hd} {us : List V}, Hrs K H hs us → Hrs K H1 hs us
  | [], us, h => h
  | h :: hs, us, ⟨u, r, e, a, b⟩ => ⟨u, r, e, a.ext x, Hrs.ext x b⟩
theorem Hrs.length : ∀ {hs : List Hd} {us : List V}, Hrs K H hs us → us.length = hs.length
  | [], us, h => by rw [show us = [] from h]; rfl
  | h :: hs, us, ⟨u, r, e, _, b⟩ => by rw [e]; exact congrArg Nat.succ (Hrs.length b)
theorem Hrs.app : ∀ {hs ks : List Hd} {us vs : List V}, Hrs K H hs us → Hrs K H ks vs → Hrs K H (hs ++ ks) (us ++ vs)
  | [], ks, us, vs, h, q => by rw [show us = [] from h]; exact q
  | h :: hs, ks, us, vs, ⟨u, r, e, a, b⟩, q => by rw [e]; exact ⟨u, r ++ vs, rfl, a, Hrs.app b q⟩
theorem Hrs.one {h : Hd} {u : V} (q : Hr K H h u) : Hrs K H [h] [u] := ⟨u, [], rfl, q, rfl⟩
theorem Hrs.get : ∀ {hs : List Hd} {us : List V} {i : Nat} {u : V}, Hrs K H hs us → us[i]? = some u → ∃ h, hs[i]? = some h ∧ Hr K H h u
  | [], us, i, u, h, e => by rw [show us = [] from h] at e; simp at e
  | h :: hs, us, 0, u, ⟨u', r, e1, a, b⟩, e => by
    rw [e1] at e
    simp only [List.getElem?_cons_zero, Option.some.injEq] at e
    rw [← e]
    exact ⟨h, rfl, a⟩
  | h :: hs, us, i + 1, u, ⟨u', r, e1, a, b⟩, e => by
    rw [e1] at e
    exact Hrs.get (hs := hs) (us := r) (i := i) b (by simpa using e)
/-- its last one -/
theorem Hrs.last : ∀ {hs : List Hd} {l : Hd} {us : List V}, Hrs K H (hs ++ [l]) us → ∃ r u, us = r ++ [u] ∧ Hrs K H hs r ∧ Hr K H l u
  | [], l, us, ⟨u, r, e, a, b⟩ => ⟨[], u, by rw [e, show r = [] from b]; rfl, rfl, a⟩
  | h :: hs, l, us, ⟨u, r, e, a, b⟩ => by
    obtain ⟨r', u', e', c, d⟩ := Hrs.last (hs := hs) b
    exact ⟨u :: r', u', by rw [e, e']; rfl, ⟨u, r', rfl, a, c⟩, d⟩
theorem Hrs.rev : ∀ {hs : List Hd} {us : List V}, Hrs K H hs us → Hrs K H hs.reverse us.reverse
  | [], us, h => by rw [show us = [] from h]; rfl
  | h :: hs, us, ⟨u, r, e, a, b⟩ => by
    rw [e, List.reverse_cons, List.reverse_cons]
    exact Hrs.app (Hrs.rev b) (Hrs.one a)
end
theorem pls_snoc {x : Fm} : ∀ {a : List Fm}, pls (a ++ [x]) = ((pls a).1 ++ (pl x).1, (pls a).2 ++ [(pl x).2])
  | [] => by simp [pls]
  | f :: a => by
    show ((pl f).1 ++ (pls (a ++ [x])).1, (pl f).2 :: (pls (a ++ [x])).2) = _
    rw [pls_snoc (a := a)]
    simp [pls]
theorem pl_pt (f : Fm) : (pl f).1.length ≤ pt f := by
  refine ind (P := fun f => (pl f).1.length ≤ pt f) (fun f ih => ?_) f
  cases f with
  | qu c vs g =>
    have := ih g (by simp [kids])
    show (pl g).1.length + 1 ≤ pt g + 1
    omega
  | jn c fs =>
    have all : ∀ gs : List Fm, (∀ g ∈ gs, (pl g).1.length ≤ pt g) → (pls gs).1.length ≤ pts gs := by
      intro gs
      induction gs with
      | nil => intro _; exact Nat.zero_le _
      | cons g r ih2 =>
        intro h
        show ((pl g).1 ++ (pls r).1).length ≤ pt g + pts r
        rw [List.length_append]
        have a := h g List.mem_cons_self
        have b := ih2 fun x hx => h x (List.mem_cons_of_mem _ hx)
        omega
    exact Nat.le_trans (all fs fun g hg => ih g hg) (Nat.le_succ _)
  | _ => exact Nat.zero_le _
theorem pts_len : ∀ (gs : List Fm), gs.length ≤ pts gs
  | [] => Nat.zero_le _
  | g :: r => by
    have a := pt_pos g
    have b := pts_len r
    show r.length + 1 ≤ pt g + pts r
    omega
theorem pls_pt : ∀ (gs : List Fm), (pls gs).1.length ≤ pts gs
  | [] => Nat.zero_le _
  | g :: r => by
    show ((pl g).1 ++ (pls r).1).length ≤ pt g + pts r
    rw [List.length_append]
    have a := pl_pt g
    have b := pls_pt r
    omega
section
variable {P : Program} {w : World} {K : PySem.W.Frag} {mg : Str → Option Value} {base : Heap} {f : Addr} {B : Nat}
def spPull (K : PySem.W.Frag) (n : Nat) : L2.Sp := fun vs H Q _ => ∃ f v, vs = [v] ∧ Rp K H f v ∧ fo f = true ∧ dp f ≤ n ∧ pt f ≤ 1000 ∧
  ∀ pr l rv hvs H', Ext [] H H' → SqT K H' pr [.ref l, rv] → H' l = some (.lst hvs) → H l = none → Hrs K H' (pl f).1 hvs → Rp K H' (pl f).2 rv → Q (.ref pr) H'
theorem sc_pulled : FnScope ["formula", "word", "heads", "rest", "rests", "part", "more"] ["formula"] (defScope s_pulled) := ⟨rfl, rfl, rfl, by decide +kernel, rfl, by decide +kernel, by decide +kernel⟩
theorem hs_pulled (T : Tx w K mg) (D : Dn K mg "pulled" s_pulled f) :
    ∀ n, Hs P w K mg base CX0 (0 + n + 1) "pulled" ["formula"] (spPull K n) := by
  intro n
  induction n with
  | zero =>
    refine Hs.of D sc_pulled (fun vs H Q E h => ?_) (fun _ _ _ _ _ _ us hl => match us, hl with | [_], _ => rfl) (fun cdv A outer s H vs Q E hr h => ?_)
    · obtain ⟨f, v, rfl, _⟩ := h
      rfl
    obtain ⟨f, v, rfl, _, _, h, _⟩ := h
    exact absurd (dp_pos f) (by omega)
  | succ n ih =>
    have h_pulled := ih
    refine Hs.of D sc_pulled (fun vs H Q E h => ?_) (fun _ _ _ _ _ _ us hl => match us, hl with | [_], _ => rfl) (fun cdv A outer s H vs Q E hr h => ?_)
    · obtain ⟨f, v, rfl, _⟩ := h
      rfl
    obtain ⟨f, v, rfl, hf, hfo, hn, hpt, q⟩ := h
    refine ⟨_, PSs.nox (pss_cons (ps_set (i := 1) sc_pulled.nd rfl (by first | exact Or.inl rfl | exact Or.inr rfl) (pe_ix ix_tup (pv 0) pe_int (fun _ _ => rfl)))
      (pss_cons (ps_if (PW.pt (pw_or (pt_cmpR op_eq (pv 1) pe_str (nomark _)) (pw_or1 (pt_cmpR op_eq (pv 1) pe_str (nomark _))))) (pss_cons (ps_asg (pe_h h_pulled (hr.mono (by omega)) rfl pass0 (pa_cons (pe_ix ix_tup (pv 0) pe_int (fun _ _ => rfl)) pa_nil)) (pg_tup rfl (pgs_cons (pg_name (i := 2) sc_pulled.nd rfl (by first | exact Or.inl rfl | exact Or.inr rfl)) (pgs_cons (pg_name (i := 3) sc_pulled.nd rfl (by first | exact Or.inl rfl | exact Or.inr rfl)) pgs_nil))))
      (pss_one (ps_ret (pe_tup (pa_cons (pe_op op_cat (pe_lst (pa_cons (pe_tup (pa_cons (pv 1) (pa_cons (pe_ix ix_tup (pv 0) pe_int (fun _ _ => rfl)) pa_nil))) pa_nil)) (pv 2)) (pa_cons (pv 3) pa_nil)))))) pss_nil)
      (pss_cons (ps_if (PW.pt (pw_or (pt_cmpR op_eq (pv 1) pe_str (nomark _)) (pw_or1 (pt_cmpR op_eq (pv 1) pe_str (nomark _))))) (pss_cons (ps_set (i := 2) sc_pulled.nd rfl (by first | exact Or.inl rfl | exact Or.inr rfl) (pe_lst pa_nil))
      (pss_cons (ps_set (i := 4) sc_pulled.nd rfl (by first | exact Or.inl rfl | exact Or.inr rfl) (pe_lst pa_nil))
      (pss_cons (ps_for PassesOwn.never rfl (pi_tup (pe_ix ix_tup (pv 0) pe_int (fun _ _ => rfl))) (pg_name (i := 5) sc_pulled.nd rfl (by first | exact Or.inl rfl | exact Or.inr rfl)) (pss_cons (ps_asg (pe_h h_pulled (hr.mono (by omega)) rfl pass0 (pa_cons (pv 5) pa_nil)) (pg_tup rfl (pgs_cons (pg_name (i := 6) sc_pulled.nd rfl (by first | exact Or.inl rfl | exact Or.inr rfl)) (pgs_cons (pg_name (i := 3) sc_pulled.nd rfl (by first | exact Or.inl rfl | exact Or.inr rfl)) pgs_nil))))
      (pss_cons (ps_expr (pe_bm PySem.F.plainAttrs_list PySem.F.slot_list_extend PySem.F.type_list_extend mt_extend (pv 2) (pa_cons (pv 6) pa_nil)))
      (pss_one (ps_expr (pe_bm PySem.F.plainAttrs_list PySem.F.slot_list_append PySem.F.type_list_append mt_append (pv 4) (pa_cons (pv 3) pa_nil)))))))
      (pss_one (ps_ret (pe_tup (pa_cons (pv 2) (pa_cons (pe_tup (pa_cons (pv 1) (pa_cons (pe_callTy call_tuple_of (by rfl) T.ztuple (by decide +kernel) (pa_cons (pv 4) pa_nil)) pa_nil))) pa_nil)))))))) pss_nil)
      (pss_one (ps_ret (pe_tup (pa_cons (pe_lst pa_nil) (pa_cons (pv 0) pa_nil)))))))), ?_⟩
    have hf0 := hf
    obtain ⟨a, xs, rfl, hat⟩ := Rp.at f hf
    refine ⟨_, rfl, _, _, _, _, rfl, rfl, hat, at_zero, ?_⟩
    by_cases hx : ∃ c vs g, f = qu c vs g
    · obtain ⟨c, vs, g, rfl⟩ := hx
      obtain ⟨a', b', u, e', k1, k2, k3⟩ := hf0
      cases e'
      have hd := dp_kid (f := qu c vs g) (g := g) (by simp [kids])
      have hp1 : pt (qu c vs g) = pt g + 1 := rfl
      have pp := pl_pt g
      cases c with
      | false =>
        refine ⟨_, rfl, rfl, _, rfl, ifT (decide_eq_true rfl) (ifT rfl ?_)⟩
        refine ⟨_, rfl, _, _, _, _, rfl, rfl, k1, rfl, g, _, rfl, k3, hfo, by omega, by omega, fun pr l rv hvs H2 e2 hpr hl hl0 hH hR => ?_⟩
        refine ⟨_, _, rfl, hpr, rfl, _, _, rfl, _, _, rfl, rfl, ?_⟩
        have k1' := e2.tup k1
        refine ⟨_, rfl, _, rfl, _, _, _, _, rfl, rfl, k1', rfl, sz 2 rfl, fun p1 hp1 => ⟨sz 1 rfl, fun p2 hp2 => ?_⟩⟩
        have e3 : Ext [] H2 (upd H2 p1 (.tup [.str "some", .ref b'])) := .new hp1
        have e4 := e3.add (o := .lst [.ref p1]) hp2
        refine ⟨_, rfl, p2, l, _, _, rfl, rfl, upd_same, e4.get0 hl, small_sz (by have := Hrs.length hH; show 1 + hvs.length ≤ 1000; omega), fun p3 hp3 => ?_⟩
        have e5 := e4.add (o := .lst ([.ref p1] ++ hvs)) hp3
        refine ⟨_, rfl, sz 2 rfl, fun p4 hp4 => ?_⟩
        have e6 := e5.add (o := .tup [.ref p3, rv]) hp4
        have E6 := e2.trans e6
        refine q p4 p3 rv ([.ref p1] ++ hvs) _ E6 (SqT.of upd_same) ((Ext.new (S := []) hp4).get0 upd_same) ((e2.trans e4).free p3 hp3) ⟨_, _, rfl, ⟨p1, b', rfl, ?_, E6.tup k2⟩, hH.ext e6⟩ (Rp.ext e6 _ hR)
        exact (((Ext.new (S := []) hp2).add hp3).add hp4).tup (SqT.of upd_same)
      | true =>
        refine ⟨_, rfl, rfl, _, rfl, ifF (decide_eq_false fun z => absurd (V.str.inj z : ("all" : Str) = "some") (by decide +kernel)) ?_⟩
        refine ⟨_, rfl, rfl, _, rfl, ifT (decide_eq_true rfl) ?_⟩
        refine ⟨_, rfl, _, _, _, _, rfl, rfl, k1, rfl, g, _, rfl, k3, hfo, by omega, by omega, fun pr l rv hvs H2 e2 hpr hl hl0 hH hR => ?_⟩
        refine ⟨_, _, rfl, hpr, rfl, _, _, rfl, _, _, rfl, rfl, ?_⟩
        have k1' := e2.tup k1
        refine ⟨_, rfl, _, rfl, _, _, _, _, rfl, rfl, k1', rfl, sz 2 rfl, fun p1 hp1 => ⟨sz 1 rfl, fun p2 hp2 => ?_⟩⟩
        have e3 : Ext [] H2 (upd H2 p1 (.tup [.str "all", .ref b'])) := .new hp1
        have e4 := e3.add (o := .lst [.ref p1]) hp2
        refine ⟨_, rfl, p2, l, _, _, rfl, rfl, upd_same, e4.get0 hl, small_sz (by have := Hrs.length hH; show 1 + hvs.length ≤ 1000; omega), fun p3 hp3 => ?_⟩
        have e5 := e4.add (o := .lst ([.ref p1] ++ hvs)) hp3
        refine ⟨_, rfl, sz 2 rfl, fun p4 hp4 => ?_⟩
        have e6 := e5.add (o := .tup [.ref p3, rv]) hp4
        have E6 := e2.trans e6
        refine q p4 p3 rv ([.ref p1] ++ hvs) _ E6 (SqT.of upd_same) ((Ext.new (S := []) hp4).get0 upd_same) ((e2.trans e4).free p3 hp3) ⟨_, _, rfl, ⟨p1, b', rfl, ?_, E6.tup k2⟩, hH.ext e6⟩ (Rp.ext e6 _ hR)
        exact (((Ext.new (S := []) hp2).add hp3).add hp4).tup (SqT.of upd_same)
    · by_cases hx2 : ∃ c fs, f = jn c fs
      · obtain ⟨c, fs, rfl⟩ := hx2
        obtain ⟨a', b', us, e', k1, k2, k3⟩ := hf0
        cases e'
        have hp1 : pt (jn c fs) = pts fs + 1 := rfl
        cases c with
        | false =>
          refine ⟨_, rfl, rfl, _, rfl, ifF (decide_eq_false fun z => absurd (V.str.inj z : ("or" : Str) = "some") (by decide +kernel)) ?_⟩
          refine ⟨_, rfl, rfl, _, rfl, ifF (decide_eq_false fun z => absurd (V.str.inj z : ("or" : Str) = "all") (by decide +kernel)) ?_⟩
          refine ⟨_, rfl, rfl, _, rfl, ifF (decide_eq_false fun z => absurd (V.str.inj z : ("or" : Str) = "and") (by decide +kernel)) ?_⟩
          refine ⟨_, rfl, rfl, _, rfl, ifT (decide_eq_true rfl) ?_⟩
          refine ⟨sz 0 rfl, fun lh hlh => ⟨sz 0 rfl, fun lr hlr => ?_⟩⟩
          have e1 : Ext [] H (upd H lh (.lst [])) := .new hlh
          have e2 := e1.add (o := .lst []) hlr
          have hlr0 := e1.free lr hlr
          have hne : lh ≠ lr := ne_of_none (o := .lst []) upd_same hlr
          refine ⟨_, rfl, _, _, _, _, rfl, rfl, e2.tup k1, rfl, b', rfl, ⟨_, e2.tup k2⟩, for_parts k2 k3 (S := []) (fun dn σ H' => (∃ o3 o5 o6, σ = [some (.ref a), some (.str "or"), some (.ref lh), o3, some (.ref lr), o5, o6]) ∧ Ext [] H H' ∧ ∃ hvs rvs, H' lh = some (.lst hvs) ∧ H' lr = some (.lst rvs) ∧ Hrs K H' (pls dn).1 hvs ∧ Rps K H' (pls dn).2 rvs ∧ rvs.length = dn.length)
            ⟨⟨_, _, _, rfl⟩, e2, [], [], (Ext.new (S := []) hlr).get0 upd_same, upd_same, rfl, rfl, rfl⟩ (fun _ _ _ z => z.2.1) (fun dn x r u σ H' hk hx ⟨⟨o3, o5, o6, e⟩, e3, hvs, rvs, h1, h2, h3, h4, h5⟩ => ?_) (fun σ H' ⟨⟨o3, o5, o6, e⟩, e3, hvs, rvs, h1, h2, h3, h4, h5⟩ => ?_)⟩
          · subst e
            have hxk : x ∈ fs := by rw [hk]; simp
            have hd := dp_kid (f := jn false fs) (g := x) hxk
            have hps : pts fs = pts dn + (pt x + pts r) := by rw [hk, pts_app]; rfl
            have hls := pts_len dn
            have hpl := pls_pt dn
            have hpx := pl_pt x
            have hl3 := Hrs.length h3
            refine ⟨_, rfl, x, _, rfl, hx, fos_all.mp hfo x hxk, by omega, by omega, fun pr l rv hvs2 H2 e4 hpr hl hl0 hH hR => ?_⟩
            refine ⟨_, _, rfl, hpr, rfl, _, _, rfl, _, _, rfl, rfl, ?_⟩
            have hl4 := Hrs.length hH
            have h1' := e4.get0 h1
            have h2' := e4.get0 h2
            have n1 : l ≠ lh := (ne_of_none h1 hl0).symm
            have n2 : l ≠ lr := (ne_of_none h2 hl0).symm
            refine ⟨_, rfl, .inl ⟨rfl, _, .inl (.inl h1')⟩, _, rfl, lh, l, _, _, rfl, rfl, h1', hl, small_sz (by omega), ?_⟩
            have h2'' : upd H2 lh (.lst (hvs ++ hvs2)) lr = some (.lst rvs) := (upd_ne hne.symm).trans h2'
            refine ⟨_, rfl, .inl ⟨rfl, _, .inl (.inl h2'')⟩, _, rfl, lr, _, _, rfl, rfl, h2'', big_sz (by omega), ?_⟩
            have x5 : Ext [lh, lr] H2 (upd (upd H2 lh (.lst (hvs ++ hvs2))) lr (.lst (rvs ++ [rv]))) := (Ext.put .refl (by simp) h1' rfl).put (by simp) h2'' rfl
            refine ⟨⟨_, _, _, rfl⟩, ((e3.trans e4).mut hlh).mut hlr0, hvs ++ hvs2, rvs ++ [rv], (upd_ne hne).trans upd_same, upd_same, ?_, ?_, by simp [h5]⟩
            · rw [pls_snoc]
              exact ((h3.ext e4).app hH).ext x5
            · rw [pls_snoc]
              exact Rps.ext x5 ((Rps.ext e4 h4).snoc hR)
          · subst e
            have hls : rvs.length ≤ 1000 := by
              have := pts_len fs
              omega
            refine ⟨_, rfl, _, rfl, _, rfl, lr, _, rfl, .inl ⟨.inl (.inl h2), fun p1 hp1 => ⟨sz 2 rfl, fun p2 hp2 => ⟨sz 2 rfl, fun p3 hp3 => ?_⟩⟩⟩⟩
            have e4 : Ext [] H' (upd H' p1 (.tup rvs)) := .new hp1
            have e5 := e4.add (o := .tup [.str "or", .ref p1]) hp2
            have e6 := e5.add (o := .tup [.ref lh, .ref p2]) hp3
            refine q p3 lh (.ref p2) hvs _ (e3.trans e6) (SqT.of upd_same) (e6.get0 h1) hlh (h3.ext e6) ⟨p2, p1, rvs, rfl, (Ext.new (S := []) hp3).tup (SqT.of upd_same), ?_, Rps.ext e6 h4⟩
            exact ((Ext.new (S := []) hp2).add hp3).tup (SqT.of upd_same)
        | true =>
          refine ⟨_, rfl, rfl, _, rfl, ifF (decide_eq_false fun z => absurd (V.str.inj z : ("and" : Str) = "some") (by decide +kernel)) ?_⟩
          refine ⟨_, rfl, rfl, _, rfl, ifF (decide_eq_false fun z => absurd (V.str.inj z : ("and" : Str) = "all") (by decide +kernel)) ?_⟩
          refine ⟨_, rfl, rfl, _, rfl, ifT (decide_eq_true rfl) (ifT rfl ?_)⟩
          refine ⟨sz 0 rfl, fun lh hlh => ⟨sz 0 rfl, fun lr hlr => ?_⟩⟩
          have e1 : Ext [] H (upd H lh (.lst [])) := .new hlh
          have e2 := e1.add (o := .lst []) hlr
          have hlr0 := e1.free lr hlr
          have hne : lh ≠ lr := ne_of_none (o := .lst []) upd_same hlr
          refine ⟨_, rfl, _, _, _, _, rfl, rfl, e2.tup k1, rfl, b', rfl, ⟨_, e2.tup k2⟩, for_parts k2 k3 (S := []) (fun dn σ H' => (∃ o3 o5 o6, σ = [some (.ref a), some (.str "and"), some (.ref lh), o3, some (.ref lr), o5, o6]) ∧ Ext [] H H' ∧ ∃ hvs rvs, H' lh = some (.lst hvs) ∧ H' lr = some (.lst rvs) ∧ Hrs K H' (pls dn).1 hvs ∧ Rps K H' (pls dn).2 rvs ∧ rvs.length = dn.length)
            ⟨⟨_, _, _, rfl⟩, e2, [], [], (Ext.new (S := []) hlr).get0 upd_same, upd_same, rfl, rfl, rfl⟩ (fun _ _ _ z => z.2.1) (fun dn x r u σ H' hk hx ⟨⟨o3, o5, o6, e⟩, e3, hvs, rvs, h1, h2, h3, h4, h5⟩ => ?_) (fun σ H' ⟨⟨o3, o5, o6, e⟩, e3, hvs, rvs, h1, h2, h3, h4, h5⟩ => ?_)⟩
          · subst e
            have hxk : x ∈ fs := by rw [hk]; simp
            have hd := dp_kid (f := jn true fs) (g := x) hxk
            have hps : pts fs = pts dn + (pt x + pts r) := by rw [hk, pts_app]; rfl
            have hls := pts_len dn
            have hpl := pls_pt dn
            have hpx := pl_pt x
            have hl3 := Hrs.length h3
            refine ⟨_, rfl, x, _, rfl, hx, fos_all.mp hfo x hxk, by omega, by omega, fun pr l rv hvs2 H2 e4 hpr hl hl0 hH hR => ?_⟩
            refine ⟨_, _, rfl, hpr, rfl, _, _, rfl, _, _, rfl, rfl, ?_⟩
            have hl4 := Hrs.length hH
            have h1' := e4.get0 h1
            have h2' := e4.get0 h2
            have n1 : l ≠ lh := (ne_of_none h1 hl0).symm
            have n2 : l ≠ lr := (ne_of_none h2 hl0).symm
            refine ⟨_, rfl, .inl ⟨rfl, _, .inl (.inl h1')⟩, _, rfl, lh, l, _, _, rfl, rfl, h1', hl, small_sz (by omega), ?_⟩
            have h2'' : upd H2 lh (.lst (hvs ++ hvs2)) lr = some (.lst rvs) := (upd_ne hne.symm).trans h2'
            refine ⟨_, rfl, .inl ⟨rfl, _, .inl (.inl h2'')⟩, _, rfl, lr, _, _, rfl, rfl, h2'', big_sz (by omega), ?_⟩
            have x5 : Ext [lh, lr] H2 (upd (upd H2 lh (.lst (hvs ++ hvs2))) lr (.lst (rvs ++ [rv]))) := (Ext.put .refl (by simp) h1' rfl).put (by simp) h2'' rfl
            refine ⟨⟨_, _, _, rfl⟩, ((e3.trans e4).mut hlh).mut hlr0, hvs ++ hvs2, rvs ++ [rv], (upd_ne hne).trans upd_same, upd_same, ?_, ?_, by simp [h5]⟩
            · rw [pls_snoc]
              exact ((h3.ext e4).app hH).ext x5
            · rw [pls_snoc]
              exact Rps.ext x5 ((Rps.ext e4 h4).snoc hR)
          · subst e
            have hls : rvs.length ≤ 1000 := by
              have := pts_len fs
              omega
            refine ⟨_, rfl, _, rfl, _, rfl, lr, _, rfl, .inl ⟨.inl (.inl h2), fun p1 hp1 => ⟨sz 2 rfl, fun p2 hp2 => ⟨sz 2 rfl, fun p3 hp3 => ?_⟩⟩⟩⟩
            have e4 : Ext [] H' (upd H' p1 (.tup rvs)) := .new hp1
            have e5 := e4.add (o := .tup [.str "and", .ref p1]) hp2
            have e6 := e5.add (o := .tup [.ref lh, .ref p2]) hp3
            refine q p3 lh (.ref p2) hvs _ (e3.trans e6) (SqT.of upd_same) (e6.get0 h1) hlh (h3.ext e6) ⟨p2, p1, rvs, rfl, (Ext.new (S := []) hp3).tup (SqT.of upd_same), ?_, Rps.ext e6 h4⟩
            exact ((Ext.new (S := []) hp2).add hp3).tup (SqT.of upd_same)
      · have e0 : pl f = ([], f) := by
          cases f with
          | qu c vs g => exact absurd ⟨c, vs, g, rfl⟩ hx
          | jn c fs => exact absurd ⟨c, fs, rfl⟩ hx2
          | _ => rfl
        rw [e0] at q
        have hw : ∀ x c, (∀ i, i < 12 → decide (wds i = x) = (i == c)) → (wk f == c) = false → decide (V.str (wd f) = V.str x) = false := fun x c h1 h2 => (wd_eq x c h1).trans h2
        have h4 : (wk f == 4) = false ∧ (wk f == 5) = false ∧ (wk f == 6) = false ∧ (wk f == 7) = false := by
          cases f with
          | qu c vs g => exact absurd ⟨c, vs, g, rfl⟩ hx
          | jn c fs => exact absurd ⟨c, fs, rfl⟩ hx2
          | cmp c _ _ => cases c <;> exact ⟨rfl, rfl, rfl, rfl⟩
          | fx c _ _ _ _ => cases c <;> exact ⟨rfl, rfl, rfl, rfl⟩
          | _ => exact ⟨rfl, rfl, rfl, rfl⟩
        refine ⟨_, rfl, rfl, _, rfl, ifF (hw "some" 6 (by decide +kernel) h4.2.2.1) ?_⟩
        refine ⟨_, rfl, rfl, _, rfl, ifF (hw "all" 7 (by decide +kernel) h4.2.2.2) ?_⟩
        refine ⟨_, rfl, rfl, _, rfl, ifF (hw "and" 4 (by decide +kernel) h4.1) ?_⟩
        refine ⟨_, rfl, rfl, _, rfl, ifF (hw "or" 5 (by decide +kernel) h4.2.1) ?_⟩
        refine ⟨sz 0 rfl, fun l hl => ⟨_, rfl, sz 2 rfl, fun p hp => ?_⟩⟩
        have e1 : Ext [] H (upd H l (.lst [])) := .new hl
        have e2 := e1.add (o := .tup [.ref l, .ref a]) hp
        exact q p l (.ref a) [] _ e2 (SqT.of upd_same) ((Ext.new (S := []) hp).get0 upd_same) hl rfl (Rp.ext e2 f hf0)
end
end Say
set_option maxRecDepth 100000
set_option maxHeartbeats 4000000
/-! quantifiers gathered; prenex -/
namespace Say
open PySem PySem.Spec PyProof.Rows L2 Fm
section
variable {P : Program} {w : World} {K : PySem.W.Frag} {mg : Str → Option Value} {base : Heap} {f : Addr} {B : Nat}
theorem qw_eq {c e : Bool} : decide (V.str (qw c) = V.str (qw e)) = decide (c = e) := by
  rw [str_eq]
  cases c <;> cases e <;> decide +kernel
theorem gt_snoc {hs : List Hd} {h : Hd} : (hs ++ [h]).foldl gstep [] = gstep (hs.foldl gstep []) h := by rw [List.foldl_append]; rfl
theorem set_last {F : List V} {x y : V} : (F ++ [x]).set F.length y = F ++ [y] := by
  rw [List.set_append_right _ _ (Nat.le_refl _), Nat.sub_self]
  rfl
theorem ixN_last {F : List V} {x : V} : ixN (F ++ [x]).length (-1) = some F.length := by
  unfold ixN
  rw [if_neg (by omega), if_pos (by rw [List.length_append]; simp; omega)]
  congr 1
  rw [List.length_append]
  simp
  omega
def spGat (K : PySem.W.Frag) : L2.Sp := fun vs H Q _ => ∃ l hs hvs, vs = [.ref l] ∧ SqL K H l hvs ∧ Hrs K H hs hvs ∧ hs.length ≤ 1000 ∧ (∀ h ∈ hs, h.2.length ≤ 6) ∧
  ∀ p gvs H', Ext [] H H' → H' p = some (.lst gvs) → H p = none → Hrs K H' (gt hs) gvs → Q (.ref p) H'
theorem sc_gathered : FnScope ["heads", "found", "word", "names"] ["heads"] (defScope s_gathered) := ⟨rfl, rfl, rfl, by decide +kernel, rfl, by decide +kernel, by decide +kernel⟩
theorem hs_gathered (T : Tx w K mg) (D : Dn K mg "gathered" s_gathered f) : Hs P w K mg base CX0 1 "gathered" ["heads"] (spGat K) := by
  refine Hs.of D sc_gathered (fun vs H Q E h => ?_) (fun _ _ _ _ _ _ us hl => match us, hl with | [_], _ => rfl) (fun cdv A outer s H vs Q E hr h => ?_)
  · obtain ⟨l, hs, hvs, rfl, _⟩ := h
    rfl
  obtain ⟨l, hs, hvs, rfl, hl, hH, hz, h6, q⟩ := h
  refine ⟨_, PSs.nox (pss_cons (ps_set (i := 1) sc_gathered.nd rfl (by first | exact Or.inl rfl | exact Or.inr rfl) (pe_lst pa_nil))
      (pss_cons (ps_for PassesOwn.never rfl (pi_list (pv 0)) (pg_tup rfl (pgs_cons (pg_name (i := 2) sc_gathered.nd rfl (by first | exact Or.inl rfl | exact Or.inr rfl)) (pgs_cons (pg_name (i := 3) sc_gathered.nd rfl (by first | exact Or.inl rfl | exact Or.inr rfl)) pgs_nil))) (pss_one (ps_if (PW.pt (pw_and (pt_truth (pv 1) (by intro _; rfl)) (pw_and (pt_cmpR op_eq (pe_ix ix_tup (pe_ix ix_list (pv 1) (pe_un un_neg pe_int) (fun _ _ => rfl)) pe_int (fun _ _ => rfl)) (pv 2) (nomark _)) (pw_and1 (pt_cmpR op_le (pe_op op_add (pe_callB call_len_seq (by rfl) T.zlen PySem.boot_len (pa_cons (pe_ix ix_tup (pe_ix ix_list (pv 1) (pe_un un_neg pe_int) (fun _ _ => rfl)) pe_int (fun _ _ => rfl)) pa_nil)) (pe_callB call_len_seq (by rfl) T.zlen PySem.boot_len (pa_cons (pv 3) pa_nil))) (pe_glob (v := .int 6) rfl T.places.choose_spec ⟨_, rfl⟩) (nomark _)))))) (pss_one (ps_asg (pe_tup (pa_cons (pv 2) (pa_cons (pe_op op_catS (pe_ix ix_tup (pe_ix ix_list (pv 1) (pe_un un_neg pe_int) (fun _ _ => rfl)) pe_int (fun _ _ => rfl)) (pv 3)) pa_nil))) (pg_sub (pv 1) (pe_un un_neg pe_int) set_list))) (pss_one (ps_expr (pe_bm PySem.F.plainAttrs_list PySem.F.slot_list_append PySem.F.type_list_append mt_append (pv 1) (pa_cons (pe_tup (pa_cons (pv 2) (pa_cons (pv 3) pa_nil))) pa_nil)))))))
      (pss_one (ps_ret (pv 1))))), ?_⟩
  refine ⟨sz 0 rfl, fun p hp => ?_⟩
  have e1 : Ext [] H (upd H p (.lst [])) := .new hp
  refine ⟨_, rfl, l, rfl, ⟨_, e1.lst0 hl⟩, for_list (xs := hvs) (fun i σ H' => (∃ o2 o3, σ = [some (.ref l), some (.ref p), o2, o3]) ∧ Ext [] H H' ∧ ∃ gvs, H' p = some (.lst gvs) ∧ Hrs K H' ((hs.take i).foldl gstep []) gvs ∧ gvs.length ≤ i ∧ ∀ h ∈ (hs.take i).foldl gstep [], h.2.length ≤ 6) ⟨⟨_, _, rfl⟩, e1, [], upd_same, rfl, Nat.le_refl _, by simp⟩
    (fun i σ H' _ z => z.2.1.lst0 hl) (fun i x σ H' hx ⟨⟨o2, o3, e⟩, e2, gvs, h1, h2, h3, h4⟩ => ?_) (fun σ H' ⟨⟨o2, o3, e⟩, e2, gvs, h1, h2, h3, h4⟩ => ?_)⟩
  · subst e
    obtain ⟨h, hh, hr⟩ := Hrs.get hH hx
    have hr := hr.ext e2
    obtain ⟨a, b, rfl, k1, k2⟩ := hr
    have hi : i < hvs.length := by
      rcases Nat.lt_or_ge i hvs.length with a | a
      · exact a
      · rw [List.getElem?_eq_none a] at hx; cases hx
    have hhl := Hrs.length hH
    have hsix : h.2.length ≤ 6 := h6 h (List.mem_of_getElem? hh)
    have hts : hs.take (i + 1) = hs.take i ++ [h] := (take_step hh).1
    refine ⟨_, _, rfl, k1, rfl, _, _, rfl, _, _, rfl, rfl, ?_⟩
    -- what an append leaves
    have app : ∀ g : List Hd, (hs.take i).foldl gstep [] = g → gstep g h = g ++ [h] → ∀ pn, ∀ hpn : H' pn = none, Ext [] H (upd (upd H' pn (.tup [.str (qw h.1), .ref b])) p (.lst (gvs ++ [.ref pn]))) ∧ ∃ gvs', upd (upd H' pn (.tup [.str (qw h.1), .ref b])) p (.lst (gvs ++ [.ref pn])) p = some (.lst gvs') ∧
        Hrs K (upd (upd H' pn (.tup [.str (qw h.1), .ref b])) p (.lst (gvs ++ [.ref pn]))) ((hs.take (i + 1)).foldl gstep []) gvs' ∧ gvs'.length ≤ i + 1 ∧ ∀ h ∈ (hs.take (i + 1)).foldl gstep [], h.2.length ≤ 6 := by
      intro g hg hst pn hpn
      have x1 : Ext [] H' (upd H' pn (.tup [.str (qw h.1), .ref b])) := .new hpn
      have x2 : Ext [p] H' (upd (upd H' pn (.tup [.str (qw h.1), .ref b])) p (.lst (gvs ++ [.ref pn]))) := (x1.mono (T := [p]) (by simp)).put (by simp) (x1.get0 h1) rfl
      have x3 : Ext [p] (upd H' pn (.tup [.str (qw h.1), .ref b])) (upd (upd H' pn (.tup [.str (qw h.1), .ref b])) p (.lst (gvs ++ [.ref pn]))) := Ext.put .refl (by simp) (x1.get0 h1) rfl
      refine ⟨(e2.trans x1).mut hp, _, upd_same, ?_, by simp; omega, ?_⟩
      · rw [hts, gt_snoc, hg, hst, ← hg]
        exact (h2.ext x2).app (Hrs.one ⟨pn, b, rfl, x3.tup (SqT.of upd_same), x2.tup k2⟩)
      · rw [hts, gt_snoc, hg, hst, ← hg]
        intro y hy
        rcases List.mem_append.mp hy with m | m
        · exact h4 y m
        · rw [List.mem_singleton.mp m]; exact hsix
    generalize hg : (hs.take i).foldl gstep [] = g at h2 h4
    rcases List.eq_nil_or_concat g with hnil | ⟨g0, lst, hcon⟩
    · subst hnil
      have hgv : gvs = [] := h2
      subst hgv
      refine ⟨_, rfl, false, .inl ⟨_, .inl (.inl h1), rfl⟩, ?_⟩
      refine ifF rfl ?_
      refine ifF rfl ?_
      refine ⟨_, rfl, .inl ⟨rfl, _, .inl (.inl h1)⟩, _, rfl, _, rfl, sz 2 rfl, fun pn hpn => ?_⟩
      refine ⟨p, _, _, rfl, rfl, (Ext.new (S := []) hpn).get0 h1, big_sz (Nat.zero_le _), ?_⟩
      obtain ⟨z1, z2⟩ := app [] hg rfl pn hpn
      exact ⟨⟨_, _, rfl⟩, z1, z2⟩
    · have hcon : g = g0 ++ [lst] := by simpa using hcon
      subst hcon
      obtain ⟨F, fv, rfl, hF, hlst⟩ := Hrs.last h2
      have hl6 : lst.2.length ≤ 6 := h4 lst (by simp)
      obtain ⟨a2, b2, rfl, j1, j2⟩ := hlst
      refine ⟨_, rfl, true, .inl ⟨_, .inl (.inl h1), by cases F <;> rfl⟩, ?_⟩
      refine ifT rfl ?_
      have hgl : (g0 ++ [lst]).getLast? = some lst := by simp
      have hst : gstep (g0 ++ [lst]) h = if lst.1 = h.1 ∧ lst.2.length + h.2.length ≤ 6 then (g0 ++ [lst]).dropLast ++ [(lst.1, lst.2 ++ h.2)] else (g0 ++ [lst]) ++ [h] := by
        unfold gstep
        rw [hgl]
      have other : ¬ (lst.1 = h.1 ∧ lst.2.length + h.2.length ≤ 6) → ∀ (σ : L2.St), σ = [some (.ref l), some (.ref p), some (.str (qw h.1)), some (.ref b)] → tDrop (tBM K "list" rAppend (tVar 1) (tCons (tTup (tCons (tVar 2) (tCons (tVar 3) tNil))) tNil)) { nx := fun σ H' => (∃ o2 o3, σ = [some (.ref l), some (.ref p), o2, o3]) ∧ Ext [] H H' ∧ ∃ gvs, H' p = some (.lst gvs) ∧ Hrs K H' ((hs.take (i + 1)).foldl gstep []) gvs ∧ gvs.length ≤ i + 1 ∧ ∀ h ∈ (hs.take (i + 1)).foldl gstep [], h.2.length ≤ 6, rt := Q, bk := fun _ _ => True, ct := fun _ _ => True } σ H' := by
        intro hno σ hσ
        subst hσ
        refine ⟨_, rfl, .inl ⟨rfl, _, .inl (.inl h1)⟩, _, rfl, _, rfl, sz 2 rfl, fun pn hpn => ?_⟩
        refine ⟨p, _, _, rfl, rfl, (Ext.new (S := []) hpn).get0 h1, big_sz (by omega), ?_⟩
        obtain ⟨z1, z2⟩ := app _ hg (by rw [hst, if_neg hno]) pn hpn
        exact ⟨⟨_, _, rfl⟩, z1, z2⟩
      refine ⟨_, rfl, _, rfl, _, _, _, _, rfl, rfl, .inl (.inl h1), atI_last F _, _, _, _, _, rfl, rfl, j1, rfl, _, rfl, rfl, _, rfl, ?_⟩
      cases hc : decide (lst.1 = h.1) with
      | false =>
        refine ifF (by rw [qw_eq]; exact hc) ?_
        refine ifF rfl ?_
        exact other (fun z => absurd z.1 (of_decide_eq_false hc)) _ rfl
      | true =>
        refine ifT (by rw [qw_eq]; exact hc) ?_
        have hlen1 : (sv lst.2).length = lst.2.length := List.length_map _
        have hlen2 : (sv h.2).length = h.2.length := List.length_map _
        refine ⟨_, rfl, _, rfl, _, _, _, _, rfl, rfl, .inl (.inl h1), atI_last F _, _, _, _, _, rfl, rfl, j1, rfl, _, _, rfl, .inr j2, _, rfl, _, _, rfl, .inr k2, _, _, rfl, rfl, _, _, rfl, rfl, _, rfl, ?_⟩
        cases hs6 : decide (((sv lst.2).length : Int) + ((sv h.2).length : Int) ≤ 6) with
        | false =>
          refine ifF rfl ?_
          have hs6 := of_decide_eq_false hs6
          exact other (fun z => hs6 (by have := z.2; omega)) _ rfl
        | true =>
          refine ifT rfl ?_
          have hs6 := of_decide_eq_true hs6
          have hyes : lst.1 = h.1 ∧ lst.2.length + h.2.length ≤ 6 := ⟨of_decide_eq_true hc, by omega⟩
          refine ⟨_, rfl, _, rfl, _, rfl, _, _, _, _, rfl, rfl, .inl (.inl h1), atI_last F _, _, _, _, _, rfl, rfl, j1, rfl, _, rfl, _, _, _, _, rfl, rfl, j2, k2, by omega, fun pc Hc ec hpc => ⟨sz 2 rfl, fun pn hpn => ?_⟩⟩
          have x1 := ec.add (o := .tup [.str (qw h.1), .ref pc]) hpn
          have h1' := x1.get0 h1
          refine ⟨_, rfl, _, rfl, p, _, _, _, rfl, rfl, h1', ixN_last, ?_⟩
          have x2 : Ext [p] Hc (upd (upd Hc pn (.tup [.str (qw h.1), .ref pc])) p (.lst ((F ++ [V.ref a2]).set F.length (V.ref pn)))) := ((Ext.new (S := []) hpn).mono (T := [p]) (by simp)).put (by simp) h1' rfl
          refine ⟨⟨_, _, rfl⟩, (e2.trans x1).mut hp, _, upd_same, ?_, ?_, ?_⟩
          · rw [hts, gt_snoc, hg, hst, if_pos hyes, set_last, List.dropLast_concat]
            rw [set_last] at x2
            refine ((hF.ext ec).ext x2).app (Hrs.one ⟨pn, pc, rfl, ?_, x2.tup hpc⟩)
            show SqT K _ pn [.str (qw lst.1), .ref pc]
            rw [hyes.1]
            exact (Ext.put (S := [p]) .refl (by simp) h1' rfl).tup (SqT.of upd_same)
          · rw [List.length_set]
            omega
          · rw [hts, gt_snoc, hg, hst, if_pos hyes, List.dropLast_concat]
            intro y hy
            rcases List.mem_append.mp hy with m | m
            · exact h4 y (List.mem_append_left _ m)
            · rw [List.mem_singleton.mp m]
              show (lst.2 ++ h.2).length ≤ 6
              rw [List.length_append]
              exact hyes.2
  · subst e
    rw [Hrs.length hH, List.take_length] at h2
    exact ⟨_, rfl, q p gvs H' e2 h1 hp h2⟩
end
end Say
set_option maxRecDepth 100000
set_option maxHeartbeats 4000000
/-! prenex -/
namespace Say
open PySem PySem.Spec PyProof.Rows L2 Fm
theorem mv_fo (f : Fm) : ∀ e, fo f = true → fo (mv e f) = true := by
  refine ind (P := fun f => ∀ e, fo f = true → fo (mv e f) = true) (fun f ih e h => ?_) f
  cases f with
  | rel nm args => cases e <;> rfl
  | cmp c x y => cases e <;> rfl
  | neg g => exact ih g (by simp [kids]) (!e) h
  | jn c fs =>
    have q : fos (mvs e fs) = true := by
      rw [mvs_map, fos_all]
      intro g hg
      obtain ⟨g0, hg0, rfl⟩ := List.mem_map.mp hg
      exact ih g0 hg0 e (fos_all.mp h g0 hg0)
    cases e <;> exact q
  | qu c vs g =>
    have q := ih g (by simp [kids]) e h
    cases e <;> exact q
  | fx l m vs g args => cases h
  | tc vs g args => cases h
  | gs m ar g => cases h
theorem rn_fo (f : Fm) : ∀ k U g U', Rn f k U g U' → fo g = true := by
  refine ind (P := fun f => ∀ k U g U', Rn f k U g U' → fo g = true) (fun f ih k U g U' h => ?_) f
  have lst : ∀ fs : List Fm, (∀ f ∈ fs, ∀ k U g U', Rn f k U g U' → fo g = true) → ∀ k U zs U', Rns fs k U zs U' → fos zs = true := by
    intro fs
    induction fs with
    | nil => intro _ k U zs U' h; rw [h.1]; rfl
    | cons f r ih2 =>
      intro q k U zs U' ⟨g, U1, r', e, a, b⟩
      rw [e]
      show (fo g && fos r') = true
      rw [q f List.mem_cons_self _ _ _ _ a, ih2 (fun f hf => q f (List.mem_cons_of_mem _ hf)) _ _ _ _ b]
      rfl
  cases f with
  | rel nm args => rw [h.1]; rfl
  | cmp c x y => rw [h.1]; rfl
  | neg g0 =>
    obtain ⟨f', e, h⟩ := h
    rw [e]
    show fo f' = true
    exact ih g0 (by simp [kids]) _ _ f' _ h
  | jn c fs =>
    obtain ⟨fs', e, h⟩ := h
    rw [e]
    exact lst fs (fun f hf => ih f hf) _ _ _ _ h
  | qu c vs g0 =>
    obtain ⟨ws, f', e, _, h⟩ := h
    rw [e]
    show fo f' = true
    exact ih g0 (by simp [kids]) _ _ f' _ h
  | fx l m vs g args => exact h.elim
  | tc vs g args => exact h.elim
  | gs m ar g => exact h.elim
section
variable {P : Program} {w : World} {K : PySem.W.Frag} {mg : Str → Option Value} {base : Heap} {f : Addr} {B : Nat}
def spPx (K : PySem.W.Frag) : L2.Sp := fun vs H Q _ => ∃ f v, ∃ A : List Str, ∃ s0, vs = [v] ∧ Rp K H f v ∧ fo f = true ∧ Wf s0 (fun _ => none) f ∧ pt f ≤ 500 ∧ dp f ≤ 10 ∧ qn f ≤ 20 ∧ A.length ≤ 40 ∧ (∀ x ∈ an f, x ∈ A) ∧
  ∀ hs r v' H', Ext [] H H' → PxOk s0 f hs r → Rp K H' (wrap hs r) v' → Q v' H'
theorem sc_prenex : FnScope ["formula", "heads", "rest", "word", "names"] ["formula"] (defScope s_prenex) := ⟨rfl, rfl, rfl, by decide +kernel, rfl, by decide +kernel, by decide +kernel⟩
theorem hs_prenex (T : Tx w K mg) (D : Dn K mg "prenex" s_prenex f) (h_looked : Hs P w K mg base CX0 46 "looked" ["formula"] (spLooked K)) (h_sized : Hs P w K mg base CX0 47 "sized" ["formula"] (spSized K)) (h_is_plain0 : ∀ n, Hs P w K mg base CX0 (1 + n + 1) "is_plain" ["formula"] (spPlain K n))
    (h_moved0 : ∀ n, Hs P w K mg base CX0 (1 + n + 1) "moved" ["formula", "even"] (spMoved K n)) (h_fresh_for : Hs P w K mg base CX0 43 "fresh_for" ["formulas"] (spFF K)) (h_renamed0 : ∀ n, Hs P w K mg base CX0 (2 + n + 1) "renamed" ["formula", "known", "fresh"] (spRen K n))
    (h_pulled0 : ∀ n, Hs P w K mg base CX0 (0 + n + 1) "pulled" ["formula"] (spPull K n)) (h_gathered : Hs P w K mg base CX0 1 "gathered" ["heads"] (spGat K)) :
    Hs P w K mg base CX0 48 "prenex" ["formula"] (spPx K) := by
  have h_is_plain := h_is_plain0 40
  have h_moved := h_moved0 40
  have h_renamed := h_renamed0 40
  have h_pulled := h_pulled0 40
  refine Hs.of D sc_prenex (fun vs H Q E h => ?_) (fun _ _ _ _ _ _ us hl => match us, hl with | [_], _ => rfl) (fun cdv A0 outer s H vs Q E hr h => ?_)
  · obtain ⟨f, v, A, s0, rfl, _⟩ := h
    rfl
  obtain ⟨f, v, A, s0, rfl, hf, hfo, wf, hpt, hdp, hqn, hA, hAn, q⟩ := h
  refine ⟨_, PSs.nox (pss_cons (ps_expr (pe_h h_looked (hr.mono (by omega)) rfl pass0 (pa_cons (pv 0) pa_nil)))
      (pss_cons (ps_if (pt_not (pt_val (pe_h h_is_plain (hr.mono (by omega)) rfl pass0 (pa_cons (pv 0) pa_nil)))) (pss_one ps_never) pss_nil)
      (pss_cons (ps_asg (pe_h h_pulled (hr.mono (by omega)) rfl pass0 (pa_cons (pe_h h_renamed (hr.mono (by omega)) rfl pass0 (pa_cons (pe_h h_moved (hr.mono (by omega)) rfl pass0 (pa_cons (pv 0) (pa_cons pe_bl pa_nil))) (pa_cons pe_dnewK (pa_cons (pe_h h_fresh_for (hr.mono (by omega)) rfl pass0 (pa_cons (pe_lst (pa_cons (pv 0) pa_nil)) pa_nil)) pa_nil)))) pa_nil)) (pg_tup rfl (pgs_cons (pg_name (i := 1) sc_prenex.nd rfl (by first | exact Or.inl rfl | exact Or.inr rfl)) (pgs_cons (pg_name (i := 2) sc_prenex.nd rfl (by first | exact Or.inl rfl | exact Or.inr rfl)) pgs_nil))))
      (pss_cons (ps_for PassesOwn.never rfl (pi_list (pe_revL (pe_h h_gathered (hr.mono (by omega)) rfl pass0 (pa_cons (pv 1) pa_nil)))) (pg_tup rfl (pgs_cons (pg_name (i := 3) sc_prenex.nd rfl (by first | exact Or.inl rfl | exact Or.inr rfl)) (pgs_cons (pg_name (i := 4) sc_prenex.nd rfl (by first | exact Or.inl rfl | exact Or.inr rfl)) pgs_nil))) (pss_one (ps_set (i := 2) sc_prenex.nd rfl (by first | exact Or.inl rfl | exact Or.inr rfl) (pe_tup (pa_cons (pv 3) (pa_cons (pv 4) (pa_cons (pv 2) pa_nil)))))))
      (pss_one (ps_ret (pe_h h_sized (hr.mono (by omega)) rfl pass0 (pa_cons (pv 2) pa_nil)))))))), ?_⟩
  obtain ⟨z1, z2, z3⟩ := mv_sizes f true
  refine ⟨_, rfl, f, _, s0, rfl, hf, wf, by omega, by omega, fun H1 v1 e1 => ?_⟩
  refine ⟨_, rfl, f, _, rfl, Rp.ext e1 f hf, by omega, fun H2 e2 => ⟨_, rfl, ?_⟩⟩
  rw [hfo]
  refine ifF rfl ?_
  have E2 := e1.trans e2
  refine ⟨_, rfl, f, _, true, s0, _, rfl, Rp.ext E2 f hf, wf, hfo, by omega, fun mvv H3 e3 hmv => ?_⟩
  intro kd hkd
  have e4 : Ext [] H3 (upd H3 kd (.dK [])) := .new hkd
  refine ⟨_, rfl, sz 1 rfl, fun l hl => ?_⟩
  have e5 := e4.add (o := .lst [v]) hl
  have E5 := E2.trans (e3.trans e5)
  refine ⟨l, v, f, A, s0, _, rfl, .inl (.inl upd_same), Rp.ext E5 f hf, wf, by omega, by omega, hAn, fun fr dx d kvs ys H6 e6 F nd hyl hm hfr hd => ?_⟩
  have hk6 : H6 kd = some (.dK []) := e6.get0 ((Ext.new (S := []) hl).get0 upd_same)
  have hkd2 : kd ≠ d := by
    intro e
    rw [e] at hk6
    have := (Ext.new (S := []) hl (o := .lst [v])).get0 (upd_same : upd H3 kd (.dK []) kd = some (.dK []))
    rw [e] at this
    rw [e] at hd
    rw [hd] at this
    cases this
  refine ⟨mv true f, mvv, kd, [], (fun x => x), fr, dx, d, 0, kvs, ys, s0, fun _ => none, rfl, Rp.ext (e5.trans e6) _ hmv, mv_wf f true wf, mv_fo f true hfo, by omega, hk6, fun x => rfl, Nat.zero_le _, hkd2, F, by omega, fun g1 U' g1v H7 m7 kvs7 hRn e7 F7 hU7 hg1 => ?_⟩
  have hfv : ∀ x ∈ fv f, x ∈ ys := fun x hx => (hm x).mpr (fv_an f x hx)
  have R0 := rn_ok (s0 := s0) (b := fun _ => none) (I := fun _ => []) (n := 0) (mv true f) _ ys g1 U' hRn (mv_wf f true wf) fun x hx => ⟨hfv x (mv_fv f true x hx), wf_fv f _ wf x (mv_fv f true x hx)⟩
  have rdp := R0.dp
  have rpt := R0.pt
  have px := prenex_ok (s0 := s0) wf hfo hfv hRn
  have plw := pl_wf (s0 := s0) (b := fun _ => none) g1 R0.wf (R0.nnf (mv_nnf f true hfo))
  have plp := pl_pt g1
  refine ⟨g1, g1v, rfl, hg1, rn_fo _ _ _ _ _ hRn, by omega, by omega, fun pr l2 rv hvs H8 e8 hpr hl2 hl20 hH hR => ?_⟩
  refine ⟨_, _, rfl, hpr, rfl, _, _, rfl, _, _, rfl, rfl, ?_⟩
  have E7 : Ext [] H H7 := (E5.trans e6).late e7 (by simp [e5.free fr hfr |> e3.free fr |> E2.free fr, e5.free d hd |> e3.free d |> E2.free d])
  have E8 := E7.trans e8
  refine ⟨_, rfl, l2, (pl g1).1, hvs, rfl, .inl (.inl hl2), hH, by omega, fun h hh => (plw.hd h hh).1.2, fun p gvs H9 e9 hp hp0 hG => ?_⟩
  refine ⟨p, gvs, rfl, .inl (.inl hp), fun p9 hp9 => ?_⟩
  have e10 : Ext [] H9 (upd H9 p9 (.lst gvs.reverse)) := .new hp9
  have E10 := E8.trans (e9.trans e10)
  have hGr : Hrs K (upd H9 p9 (.lst gvs.reverse)) (gt (pl g1).1).reverse gvs.reverse := (hG.rev).ext e10
  refine ⟨p9, rfl, ⟨_, .inl (.inl upd_same)⟩, for_list (xs := gvs.reverse) (fun i σ H' => Ext [] (upd H9 p9 (.lst gvs.reverse)) H' ∧ ∃ rv' o3 o4, σ = [some v, some (.ref l2), some rv', o3, o4] ∧ Rp K H' (wrap ((gt (pl g1).1).reverse.take i).reverse (pl g1).2) rv') ⟨.refl, rv, _, _, rfl, Rp.ext (e9.trans e10) _ hR⟩
    (fun i σ H' _ z => z.1.lst0 (.inl (.inl upd_same))) (fun i x σ H' hx ⟨e11, rv', o3, o4, e, hrv⟩ => ?_) (fun σ H' ⟨e11, rv', o3, o4, e, hrv⟩ => ?_)⟩
  · subst e
    obtain ⟨h, hh, hr⟩ := Hrs.get hGr hx
    obtain ⟨a, b, rfl, k1, k2⟩ := hr.ext e11
    refine ⟨_, _, rfl, k1, rfl, _, _, rfl, _, _, rfl, rfl, ?_⟩
    refine ⟨_, rfl, _, rfl, _, rfl, sz 3 rfl, fun pn hpn => ?_⟩
    have e12 : Ext [] H' (upd H' pn (.tup [.str (qw h.1), .ref b, rv'])) := .new hpn
    refine ⟨e11.trans e12, .ref pn, _, _, rfl, ?_⟩
    rw [(take_step hh).1, List.reverse_append]
    show Rp K _ (qu h.1 h.2 (wrap ((gt (pl g1).1).reverse.take i).reverse (pl g1).2)) _
    refine ⟨pn, b, rv', rfl, ?_, e12.tup k2, Rp.ext e12 _ hrv⟩
    have hw : wd (qu h.1 h.2 (wrap ((gt (pl g1).1).reverse.take i).reverse (pl g1).2)) = qw h.1 := by cases h.1 <;> rfl
    rw [hw]
    exact SqT.of upd_same
  · subst e
    rw [List.length_reverse, Hrs.length hG, List.take_of_length_le (by rw [List.length_reverse]; exact Nat.le_refl _), List.reverse_reverse] at hrv
    have pd := px.dp
    have pp := px.pt
    have hw := px.wf
    refine ⟨_, rfl, _, _, s0, rfl, hrv, hw, by rw [pt_wrap]; omega, by rw [dp_wrap]; omega, fun H12 e12 => ?_⟩
    exact q _ _ _ H12 (E10.trans (e11.trans e12)) px (Rp.ext e12 _ hrv)
end
end Say
set_option maxRecDepth 100000
set_option maxHeartbeats 4000000
/-! what is refused; apart -/
namespace Say
open PySem PySem.Spec PyProof.Rows L2 Fm
abbrev cBad (K : PySem.W.Frag) : Addr := He.ga K "BadArgument"
structure Tb (K : PySem.W.Frag) (mg : Str → Option Value) : Prop where
  g : mg "BadArgument" = some (.ref (cBad K))
  gF : mg "BadFormula" = some (.ref (He.ga K "BadFormula"))
  x : PySem.W.excIn K (cBad K) He.veBase "ValueError.__new__" = true
  kC : PySem.W.keepIn K (.ref (cBad K)) = true
  b : PySem.W.subIn K (.ref (cBad K)) (.type "BaseException") = some true
  t : PySem.W.typeIn K (.ref (cBad K)) = some (.type "type")
  m : PySem.W.exmOne K (.ref (cBad K)) (.ref (cBad K)) = some true
  ec : ExcC K (cBad K)
  no : PySem.W.kitOne K (.ref (cBad K)) (.ref (He.ga K "BadFormula")) = some false
theorem call_isE2 {X : Cx} {a D : Addr} {oe : Obj} {cls : Value} {d : Option Addr} {pn : List (Addr × Obj)} (C : ExcC X.K D) (hz : Zc cls d oe) (hf : ∃ vs, oe.data = .fields vs) :
    CallR (X.suite a ((a, oe) :: pn)) (.builtin "isinstance") (fun xs H Q => (cls = .ref D ∧ d = none) ∧ rIsE X.K D a xs H Q) := by
  intro pins s σ H xs us Q I r h
  obtain ⟨⟨e1, e2⟩, h⟩ := h
  subst e1 e2
  exact call_isE C hz hf pins s σ H xs us Q I r h
section
variable {P : Program} {w : World} {K : PySem.W.Frag} {mg : Str → Option Value} {base : Heap} {f : Addr} {B : Nat}
def spPxX (K : PySem.W.Frag) : L2.Sp := fun vs H _ E => ∃ f v s0, vs = [v] ∧ Rp K H f v ∧ fo f = false ∧ Wf s0 (fun _ => none) f ∧ pt f ≤ 2000 ∧ dp f ≤ 40 ∧ ∀ H', Ext [] H H' → E (.ref (cBad K)) none H'
theorem hs_prenexX (T : Tx w K mg) (TB : Tb K mg) (D : Dn K mg "prenex" s_prenex f) (h_looked : Hs P w K mg base CX0 46 "looked" ["formula"] (spLooked K)) (h_is_plain0 : ∀ n, Hs P w K mg base CX0 (1 + n + 1) "is_plain" ["formula"] (spPlain K n)) :
    Hs P w K mg base (CX P w) 47 "prenex" ["formula"] (spPxX K) := by
  have h_is_plain := h_is_plain0 40
  refine Hs.of D sc_prenex (fun vs H Q E h => ?_) (fun _ _ _ _ _ _ us hl => match us, hl with | [_], _ => rfl) (fun cdv A0 outer s H vs Q E hr h => ?_)
  · obtain ⟨f, v, s0, rfl, _⟩ := h
    rfl
  obtain ⟨f, v, s0, rfl, hf, hfo, wf, hpt, hdp, q⟩ := h
  refine ⟨_, (pss_cons (ps_expr (pe_h h_looked (hr.mono (by omega)) rfl pass0 (pa_cons (pv 0) pa_nil)))
      (pss_cons (ps_if (pt_not (pt_val (pe_h h_is_plain (hr.mono (by omega)) rfl pass0 (pa_cons (pv 0) pa_nil)))) (pss_one (ps_raise rfl (takes_of rfl rfl rfl rfl) (pmk_own PySem.F.excBase_ValueError TB.x TB.g TB.kC (raises_own TB.b TB.t) rfl))) pss_nil) pss_never)), ?_⟩
  refine ⟨_, rfl, f, _, s0, rfl, hf, wf, by omega, by omega, fun H1 v1 e1 => ?_⟩
  refine ⟨_, rfl, f, _, rfl, Rp.ext e1 f hf, by omega, fun H2 e2 => ⟨_, rfl, ?_⟩⟩
  rw [hfo]
  refine ifT rfl ?_
  exact q H2 (e1.trans e2)
def spRef (K : PySem.W.Frag) : L2.Sp := fun vs H Q _ => ∃ f v s0, vs = [v] ∧ Rp K H f v ∧ fo f = false ∧ Wf s0 (fun _ => none) f ∧ pt f ≤ 2000 ∧ dp f ≤ 40 ∧ ∀ H', Ext [] H H' → Q (.bl true) H'
theorem sc_law_refused : FnScope ["_law_f", "e"] ["_law_f"] (defScope s_law_refused) := ⟨rfl, rfl, rfl, by decide +kernel, rfl, by decide +kernel, by decide +kernel⟩
theorem hs_refused (T : Tx w K mg) (TB : Tb K mg) (D : Dn K mg "_law_refused" s_law_refused f) (h_prenexX : Hs P w K mg base (CX P w) 47 "prenex" ["formula"] (spPxX K)) : Hs P w K mg base CX0 48 "_law_refused" ["_law_f"] (spRef K) := by
  obtain ⟨fx, fdx, Fx, mx, kx, bx⟩ := h_prenexX
  refine Hs.of D sc_law_refused (fun vs H Q E h => ?_) (fun _ _ _ _ _ _ us hl => match us, hl with | [_], _ => rfl) (fun cdv A0 outer s H vs Q E hr h => ?_)
  · obtain ⟨f, v, s0, rfl, _⟩ := h
    rfl
  obtain ⟨f, v, s0, rfl, hf, hfo, wf, hpt, hdp, q⟩ := h
  refine ⟨_, (pss_cons (ps_try_as (i := 1) rfl rfl sc_law_refused.nd rfl rfl ⟨rfl, by decide, .inl TB.g⟩ takes0
      (fun W pn xe tk _ => pss_one (ps_expr (pe_callS Fx (hr.mono (by omega)) rfl mx kx bx (fun σ => passAt tk σ) (pa_cons (pv 0) pa_nil))))
      (fun a oe cls d pn hz hf => pss_one (ps_ret (pe_not (pe_callB (call_isE2 TB.ec hz hf) (by rfl) T.isi (by decide +kernel) (pa_cons (pv 1) (pa_cons (pe_glob (v := .ref (He.ga K "BadFormula")) rfl TB.gF rfl) pa_nil)))))))
      (pss_one (ps_ret pe_bl))), ?_⟩
  refine ⟨_, rfl, f, _, s0, rfl, hf, hfo, wf, hpt, hdp, fun H1 e1 => ?_⟩
  refine ⟨true, TB.m, (fun _ a ha => ?_), (fun q => nomatch q)⟩
  refine ⟨_, rfl, ⟨rfl, rfl⟩, _, _, false, rfl, ?_, TB.no, _, rfl, ?_⟩
  · intro u hu
    exact hu
  · exact q H1 e1
def spApart (K : PySem.W.Frag) : L2.Sp := fun vs H Q _ => ∃ f v, ∃ A : List Str, ∃ s0, vs = [v] ∧ Rp K H f v ∧ fo f = true ∧ Wf s0 (fun _ => none) f ∧ pt f ≤ 500 ∧ dp f ≤ 10 ∧ qn f ≤ 20 ∧ A.length ≤ 40 ∧ (∀ x ∈ an f, x ∈ A) ∧
  ∀ g ys U' v' H', Ext [] H H' → Rn f (fun x => x) ys g U' → Rp K H' g v' → Q v' H'
theorem sc_apart : FnScope ["formula"] ["formula"] (defScope s_apart) := ⟨rfl, rfl, rfl, by decide +kernel, rfl, by decide +kernel, by decide +kernel⟩
theorem hs_apart (T : Tx w K mg) (D : Dn K mg "apart" s_apart f) (h_looked : Hs P w K mg base CX0 46 "looked" ["formula"] (spLooked K)) (h_sized : Hs P w K mg base CX0 47 "sized" ["formula"] (spSized K)) (h_fresh_for : Hs P w K mg base CX0 43 "fresh_for" ["formulas"] (spFF K)) (h_renamed0 : ∀ n, Hs P w K mg base CX0 (2 + n + 1) "renamed" ["formula", "known", "fresh"] (spRen K n)) :
    Hs P w K mg base CX0 48 "apart" ["formula"] (spApart K) := by
  have h_renamed := h_renamed0 40
  refine Hs.of D sc_apart (fun vs H Q E h => ?_) (fun _ _ _ _ _ _ us hl => match us, hl with | [_], _ => rfl) (fun cdv A0 outer s H vs Q E hr h => ?_)
  · obtain ⟨f, v, A, s0, rfl, _⟩ := h
    rfl
  obtain ⟨f, v, A, s0, rfl, hf, hfo, wf, hpt, hdp, hqn, hA, hAn, q⟩ := h
  refine ⟨_, PSs.nox (pss_cons (ps_expr (pe_h h_looked (hr.mono (by omega)) rfl pass0 (pa_cons (pv 0) pa_nil)))
      (pss_one (ps_ret (pe_h h_sized (hr.mono (by omega)) rfl pass0 (pa_cons (pe_h h_renamed (hr.mono (by omega)) rfl pass0 (pa_cons (pv 0) (pa_cons pe_dnewK (pa_cons (pe_h h_fresh_for (hr.mono (by omega)) rfl pass0 (pa_cons (pe_lst (pa_cons (pv 0) pa_nil)) pa_nil)) pa_nil)))) pa_nil))))), ?_⟩
  refine ⟨_, rfl, f, _, s0, rfl, hf, wf, by omega, by omega, fun H1 v1 e1 => ?_⟩
  refine ⟨_, rfl, ?_⟩
  intro kd hkd
  have e4 : Ext [] H1 (upd H1 kd (.dK [])) := .new hkd
  refine ⟨_, rfl, sz 1 rfl, fun l hl => ?_⟩
  have e5 := e4.add (o := .lst [v]) hl
  have E5 := e1.trans e5
  refine ⟨l, v, f, A, s0, _, rfl, .inl (.inl upd_same), Rp.ext E5 f hf, wf, by omega, by omega, hAn, fun fr dx d kvs ys H6 e6 F nd hyl hm hfr hd => ?_⟩
  have hk6 : H6 kd = some (.dK []) := e6.get0 ((Ext.new (S := []) hl).get0 upd_same)
  have hkd2 : kd ≠ d := by
    intro e
    have := (Ext.new (S := []) hl (o := .lst [v])).get0 (upd_same : upd H1 kd (.dK []) kd = some (.dK []))
    rw [e] at this
    rw [e] at hd
    rw [hd] at this
    cases this
  refine ⟨f, v, kd, [], (fun x => x), fr, dx, d, 0, kvs, ys, s0, fun _ => none, rfl, Rp.ext (E5.trans e6) _ hf, wf, hfo, by omega, hk6, fun x => rfl, Nat.zero_le _, hkd2, F, by omega, fun g1 U' g1v H7 m7 kvs7 hRn e7 F7 hU7 hg1 => ?_⟩
  have hfv : ∀ x ∈ fv f, x ∈ ys := fun x hx => (hm x).mpr (fv_an f x hx)
  have R0 := rn_ok (s0 := s0) (b := fun _ => none) (I := fun _ => []) (n := 0) f _ ys g1 U' hRn wf fun x hx => ⟨hfv x hx, wf_fv f _ wf x hx⟩
  have rdp := R0.dp
  have rpt := R0.pt
  have E7 : Ext [] H H7 := (E5.trans e6).late e7 (by simp [e5.free fr hfr |> e1.free fr, e5.free d hd |> e1.free d])
  refine ⟨g1, g1v, s0, rfl, hg1, R0.wf, by omega, by omega, fun H8 e8 => ?_⟩
  exact q g1 ys U' g1v H8 (E7.trans e8) hRn (Rp.ext e8 _ hg1)
def spTheirs (K : PySem.W.Frag) : L2.Sp := fun vs H Q _ => vs = [] ∧ ∀ ws p H', ws.length = 3 → ws.Nodup → (∀ x ∈ ws, nmOk x) → Ext [] H H' → H' p = some (.lst (sv ws)) → Q (.ref p) H'
theorem sc_law_theirs : FnScope [] [] (defScope s_law_theirs) := ⟨rfl, rfl, rfl, by decide +kernel, rfl, by decide +kernel, by decide +kernel⟩
theorem hs_theirs (T : Tx w K mg) (D : Dn K mg "_law_theirs" s_law_theirs f) (h_apart : Hs P w K mg base CX0 48 "apart" ["formula"] (spApart K)) : Hs P w K mg base CX0 49 "_law_theirs" [] (spTheirs K) := by
  refine Hs.of D sc_law_theirs (fun vs H Q E h => ?_) (fun _ _ _ _ _ _ us hl => match us, hl with | [], _ => rfl) (fun cdv A0 outer s H vs Q E hr h => ?_)
  · rw [h.1]
    rfl
  obtain ⟨rfl, q⟩ := h
  refine ⟨_, PSs.nox (pss_one (ps_ret (pe_callTy call_list_of (by rfl) T.zlist (by decide +kernel) (pa_cons (pe_ix ix_tup (pe_h h_apart (hr.mono (by omega)) rfl pass0 (pa_cons (pe_tup (pa_cons pe_str (pa_cons (pe_tup (pa_cons pe_str (pa_cons pe_str (pa_cons pe_str pa_nil)))) (pa_cons (pe_tup (pa_cons pe_str (pa_cons (pe_tup (pa_cons (pe_tup (pa_cons pe_str (pa_cons pe_str (pa_cons pe_str pa_nil)))) (pa_cons (pe_tup (pa_cons pe_str (pa_cons pe_str (pa_cons pe_str pa_nil)))) pa_nil))) pa_nil))) pa_nil)))) pa_nil)) pe_int (fun _ _ => rfl)) pa_nil)))), ?_⟩
  refine ⟨sz 3 rfl, fun p1 h1 => ?_⟩
  have e1 : Ext [] H (upd H p1 (.tup (sv ["x", "y", "z"]))) := .new h1
  refine ⟨sz 3 rfl, fun p2 h2 => ?_⟩
  have e2 := e1.add (o := .tup [.str "eq", .str "x", .str "y"]) h2
  refine ⟨sz 3 rfl, fun p3 h3 => ?_⟩
  have e3 := e2.add (o := .tup [.str "eq", .str "y", .str "z"]) h3
  refine ⟨sz 2 rfl, fun p4 h4 => ?_⟩
  have e4 := e3.add (o := .tup [.ref p2, .ref p3]) h4
  refine ⟨sz 2 rfl, fun p5 h5 => ?_⟩
  have e5 := e4.add (o := .tup [.str "and", .ref p4]) h5
  refine ⟨sz 3 rfl, fun p6 h6 => ?_⟩
  have e6 := e5.add (o := .tup [.str "some", .ref p1, .ref p5]) h6
  have x2 := Ext.new (S := []) (o := .tup [.str "eq", .str "x", .str "y"]) h2
  have x3 := Ext.new (S := []) (o := .tup [.str "eq", .str "y", .str "z"]) h3
  have x4 := Ext.new (S := []) (o := .tup [.ref p2, .ref p3]) h4
  have x5 := Ext.new (S := []) (o := .tup [.str "and", .ref p4]) h5
  have x6 := Ext.new (S := []) (o := .tup [.str "some", .ref p1, .ref p5]) h6
  have hr0 : Rp K _ (qu false ["x", "y", "z"] (jn true [cmp false "x" "y", cmp false "y" "z"])) (.ref p6) :=
    ⟨p6, p1, .ref p5, rfl, SqT.of upd_same, x6.tup (x5.tup (x4.tup (x3.tup (x2.tup (SqT.of upd_same))))),
      p5, p4, [.ref p2, .ref p3], rfl, x6.tup (SqT.of upd_same), x6.tup (x5.tup (SqT.of upd_same)),
        .ref p2, [.ref p3], rfl, ⟨p2, rfl, x6.tup (x5.tup (x4.tup (x3.tup (SqT.of upd_same))))⟩, .ref p3, [], rfl, ⟨p3, rfl, x6.tup (x5.tup (x4.tup (SqT.of upd_same)))⟩, rfl⟩
  have nx : nmOk "x" := by decide +kernel
  have ny : nmOk "y" := by decide +kernel
  have nz : nmOk "z" := by decide +kernel
  have hw : Wf (fun _ => 0) (fun _ => none) (qu false ["x", "y", "z"] (jn true [cmp false "x" "y", cmp false "y" "z"])) :=
    ⟨⟨by decide +kernel, by decide, by decide, by simp [nx, ny, nz]⟩, by decide, ⟨nx, ny⟩, ⟨ny, nz⟩, trivial⟩
  refine ⟨_, _, ["x", "y", "z"], fun _ => 0, rfl, hr0, rfl, hw, by decide +kernel, by decide +kernel, by decide +kernel, by decide, fun x hx => ?_, fun g ys U' v' H7 e7 hRn hg => ?_⟩
  · exact (by decide +kernel : ∀ x ∈ an (qu false ["x", "y", "z"] (jn true [cmp false "x" "y", cmp false "y" "z"])), x ∈ (["x", "y", "z"] : List Str)) x hx
  · obtain ⟨ws, f', rfl, ⟨w1, w2, w3⟩, _⟩ := hRn
    obtain ⟨a, b, u, rfl, k1, k2, k3⟩ := hg
    refine ⟨_, _, _, _, rfl, rfl, k1, rfl, b, _, rfl, .inr k2, fun l hl => ?_⟩
    exact q ws l _ w1 w2 (fun x hx => (w3 x hx).2) (e6.trans (e7.add hl)) upd_same
end
end Say
set_option maxRecDepth 100000
set_option maxHeartbeats 4000000
/-! the law: draws -/
namespace Say
open PySem PySem.Spec PyProof.Rows L2 Fm
theorem ifB {c : Bool} {A B : Prop} (h1 : c = true → A) (h2 : c = false → B) : if c = true then A else B := by
  cases c with
  | true => exact ifT rfl (h1 rfl)
  | false => exact ifF rfl (h2 rfl)
theorem mod_lo (a : Int) {b : Int} (h : 0 < b) : 0 ≤ a % b := Int.emod_nonneg a (by omega)
theorem mod_hi (a : Int) {b : Int} (h : 0 < b) : a % b < b := Int.emod_lt_of_pos a h
def Sm (ls : List Int) : Prop := ∀ x ∈ ls, 0 ≤ x ∧ x < 1000000
theorem sm_nil : Sm [] := fun x hx => nomatch hx
theorem Sm.snoc {ls : List Int} (h : Sm ls) {x : Int} (h1 : 0 ≤ x) (h2 : x < 1000000) : Sm (ls ++ [x]) := fun y hy => by
  rcases List.mem_append.mp hy with m | m
  · exact h y m
  · rw [List.mem_singleton.mp m]; exact ⟨h1, h2⟩
section
variable {P : Program} {w : World} {K : PySem.W.Frag} {mg : Str → Option Value} {base : Heap} {f : Addr} {B : Nat}
def spMixed : L2.Sp := fun vs H Q _ => ∃ n k : Int, vs = [.int n, .int k] ∧ ∀ r : Int, 0 ≤ r → r < 2147483647 → Q (.int r) H
theorem sc_law_mixed : FnScope ["_law_number", "_law_k", "_law_step"] ["_law_number", "_law_k"] (defScope s_law_mixed) := ⟨rfl, rfl, rfl, by decide +kernel, rfl, by decide +kernel, by decide +kernel⟩
theorem hs_mixed (T : Tx w K mg) (D : Dn K mg "_law_mixed" s_law_mixed f) : Hs P w K mg base CX0 1 "_law_mixed" ["_law_number", "_law_k"] spMixed := by
  refine Hs.of D sc_law_mixed (fun vs H Q E h => ?_) (fun _ _ _ _ _ _ us hl => match us, hl with | [_, _], _ => rfl) (fun cdv A outer s H vs Q E hr h => ?_)
  · obtain ⟨n, k, rfl, _⟩ := h
    rfl
  obtain ⟨n, k, rfl, q⟩ := h
  refine ⟨_, PSs.nox (pss_cons (ps_set (i := 2) sc_law_mixed.nd rfl (by first | exact Or.inl rfl | exact Or.inr rfl) (pe_op op_mod (pe_op op_add (pe_op op_add (pe_op op_mul (pv 0) pe_int) (pe_op op_mul (pv 1) pe_int)) pe_int) pe_int))
      (pss_one (ps_ret (pe_op op_mod (pe_op op_add (pe_op op_mul (pv 2) (pe_op op_add (pe_op op_fdiv (pv 2) pe_int) pe_int)) (pv 1)) pe_int)))), ?_⟩
  refine ⟨_, rfl, _, _, rfl, rfl, .inr ⟨by decide, by decide⟩, ?_⟩
  refine ⟨_, rfl, _, _, rfl, rfl, .inr ⟨by decide, by decide⟩, ?_⟩
  refine ⟨_, _, rfl, rfl, _, _, rfl, rfl, _, _, rfl, rfl, (by show (0 : Int) < 2147483647; decide), ?_⟩
  have l1 := mod_lo (n * 48271 + k * 69621 + 12345) (b := 2147483647) (by decide)
  have l2 := mod_hi (n * 48271 + k * 69621 + 12345) (b := 2147483647) (by decide)
  refine ⟨_, rfl, _, rfl, _, _, rfl, rfl, ⟨by decide, by decide⟩, _, _, rfl, rfl, _, _, rfl, rfl, .inl ⟨?_, ?_⟩, _, rfl, _, _, rfl, rfl, _, _, rfl, rfl, (by show (0 : Int) < 2147483647; decide), q _ (mod_lo _ (by decide)) (mod_hi _ (by decide))⟩
  · show -(2 ^ 64) < (n * 48271 + k * 69621 + 12345) % 2147483647
    omega
  · show (n * 48271 + k * 69621 + 12345) % 2147483647 < 2 ^ 64
    omega
def spNums (K : PySem.W.Frag) : L2.Sp := fun vs H Q _ => ∃ a, ∃ ns : List Int, vs = [.ref a] ∧ SqL K H a (ns.map V.int) ∧ ns.length ≤ 63 ∧
  ∀ p ls H', Ext [] H H' → H p = none → H' p = some (.lst (ls.map V.int)) → Sm ls → ls.length ≤ 10000 → Q (.ref p) H'
theorem sc_law_numbers : FnScope ["_law_script", "_law_numbers_here", "_law_cell", "_law_rest", "_law_k"] ["_law_script"] (defScope s_law_numbers) := ⟨rfl, rfl, rfl, by decide +kernel, rfl, by decide +kernel, by decide +kernel⟩
theorem hs_numbers (T : Tx w K mg) (D : Dn K mg "_law_numbers" s_law_numbers f) (h_law_mixed : Hs P w K mg base CX0 1 "_law_mixed" ["_law_number", "_law_k"] spMixed) : Hs P w K mg base CX0 2 "_law_numbers" ["_law_script"] (spNums K) := by
  refine Hs.of D sc_law_numbers (fun vs H Q E h => ?_) (fun _ _ _ _ _ _ us hl => match us, hl with | [_], _ => rfl) (fun cdv A outer s H vs Q E hr h => ?_)
  · obtain ⟨a, ns, rfl, _⟩ := h
    rfl
  obtain ⟨a, ns, rfl, ha, hz, q⟩ := h
  refine ⟨_, PSs.nox (pss_cons (ps_set (i := 1) sc_law_numbers.nd rfl (by first | exact Or.inl rfl | exact Or.inr rfl) (pe_lst pa_nil))
      (pss_cons (ps_for PassesOwn.never rfl (pi_list (pv 0)) (pg_name (i := 2) sc_law_numbers.nd rfl (by first | exact Or.inl rfl | exact Or.inr rfl)) (pss_one (ps_if (pt_cmpR op_ge (pv 2) (pe_op op_pow pe_int pe_int) (nomark _)) (pss_cons (ps_set (i := 3) sc_law_numbers.nd rfl (by first | exact Or.inl rfl | exact Or.inr rfl) (pv 2))
      (pss_one (ps_for PassesOwn.never rfl (pi_range1 rfl T.zrange (pa_cons pe_int pa_nil)) (pg_name (i := 4) sc_law_numbers.nd rfl (by first | exact Or.inl rfl | exact Or.inr rfl)) (pss_one (ps_if (pt_cmpR op_gt (pv 3) pe_int (nomark _)) (pss_cons (ps_expr (pe_bm PySem.F.plainAttrs_list PySem.F.slot_list_append PySem.F.type_list_append mt_append (pv 1) (pa_cons (pe_op op_mod (pv 3) pe_int) pa_nil)))
      (pss_one (ps_set (i := 3) sc_law_numbers.nd rfl (by first | exact Or.inl rfl | exact Or.inr rfl) (pe_op op_fdiv (pv 3) pe_int)))) pss_nil))))) (pss_cons (ps_expr (pe_bm PySem.F.plainAttrs_list PySem.F.slot_list_append PySem.F.type_list_append mt_append (pv 1) (pa_cons (pe_op op_mod (pv 2) pe_int) pa_nil)))
      (pss_one (ps_for PassesOwn.never rfl (pi_range1 rfl T.zrange (pa_cons pe_int pa_nil)) (pg_name (i := 4) sc_law_numbers.nd rfl (by first | exact Or.inl rfl | exact Or.inr rfl)) (pss_one (ps_expr (pe_bm PySem.F.plainAttrs_list PySem.F.slot_list_append PySem.F.type_list_append mt_append (pv 1) (pa_cons (pe_op op_mod (pe_h h_law_mixed (hr.mono (by omega)) rfl pass0 (pa_cons (pe_h h_law_mixed (hr.mono (by omega)) rfl pass0 (pa_cons (pe_op op_mod (pv 2) pe_int) (pa_cons (pv 4) pa_nil))) (pa_cons (pe_op op_add (pv 4) pe_int) pa_nil))) pe_int) pa_nil))))))))))
      (pss_one (ps_ret (pv 1))))), ?_⟩
  refine ⟨sz 0 rfl, fun p hp => ?_⟩
  have e1 : Ext [] H (upd H p (.lst [])) := .new hp
  refine ⟨_, rfl, a, rfl, ⟨_, e1.lst0 ha⟩, for_list (xs := ns.map V.int) (fun i σ H' => (∃ o2 o3 o4, σ = [some (.ref a), some (.ref p), o2, o3, o4]) ∧ Ext [] H H' ∧ ∃ ls : List Int, H' p = some (.lst (ls.map V.int)) ∧ Sm ls ∧ ls.length ≤ 60 * i) ⟨⟨_, _, _, rfl⟩, e1, [], upd_same, sm_nil, Nat.zero_le _⟩
    (fun i σ H' _ z => z.2.1.lst0 ha) (fun i x σ H' hx ⟨⟨o2, o3, o4, e⟩, e2, ls, h1, h2, h3⟩ => ?_) (fun σ H' ⟨⟨o2, o3, o4, e⟩, e2, ls, h1, h2, h3⟩ => ?_)⟩
  · subst e
    have hi : i < ns.length := by
      rcases Nat.lt_or_ge i ns.length with a | a
      · exact a
      · rw [List.getElem?_eq_none (by rw [List.length_map]; exact a)] at hx; cases hx
    rw [List.getElem?_map] at hx
    obtain ⟨n, hn, rfl⟩ := Option.map_eq_some_iff.mp hx
    refine ⟨_, rfl, _, _, rfl, rfl, ⟨by decide, by decide, by decide⟩, _, _, rfl, rfl, _, rfl, ?_⟩
    refine ifB (fun hb => ?_) (fun hb => ?_)
    · refine ⟨_, rfl, ?_⟩
      refine ⟨60, rfl, by decide, by decide, for_range (n := 60) (fun j σ H' => (∃ r : Int, ∃ o4, σ = [some (.ref a), some (.ref p), some (.int n), some (.int r), o4]) ∧ Ext [] H H' ∧ ∃ ls' : List Int, H' p = some (.lst (ls'.map V.int)) ∧ Sm ls' ∧ ls'.length ≤ 60 * i + j) ⟨⟨n, _, rfl⟩, e2, ls, h1, h2, by omega⟩ (fun j σ H3 hj ⟨⟨r, o4, e⟩, e3, ls', g1, g2, g3⟩ => ?_) (fun σ H3 ⟨⟨r, o4, e⟩, e3, ls', g1, g2, g3⟩ => ?_)⟩
      · subst e
        refine ⟨_, rfl, _, _, rfl, rfl, _, rfl, ?_⟩
        refine ifB (fun hb => ?_) (fun hb => ?_)
        · refine ⟨_, rfl, .inl ⟨rfl, _, .inl (.inl g1)⟩, _, rfl, _, _, rfl, rfl, (by show (0 : Int) < 1000000; decide), p, _, _, rfl, rfl, g1, big_sz (by rw [List.length_map]; omega), ?_⟩
          refine ⟨_, rfl, _, _, rfl, rfl, ⟨by decide, by decide⟩, ?_⟩
          refine ⟨⟨_, _, rfl⟩, e3.mut hp, ls' ++ [r % 1000000], by rw [List.map_append]; exact upd_same, g2.snoc (mod_lo _ (by decide)) (mod_hi _ (by decide)), by rw [List.length_append]; simp; omega⟩
        · exact ⟨⟨_, _, rfl⟩, e3, ls', g1, g2, by omega⟩
      · subst e
        exact ⟨⟨_, _, _, rfl⟩, e3, ls', g1, g2, by omega⟩
    · refine ⟨_, rfl, .inl ⟨rfl, _, .inl (.inl h1)⟩, _, rfl, _, _, rfl, rfl, (by show (0 : Int) < 1000000; decide), p, _, _, rfl, rfl, h1, big_sz (by rw [List.length_map]; omega), ?_⟩
      refine ⟨5, rfl, by decide, by decide, for_range (n := 5) (fun j σ H' => (∃ o3 o4, σ = [some (.ref a), some (.ref p), some (.int n), o3, o4]) ∧ Ext [] H H' ∧ ∃ ls' : List Int, H' p = some (.lst (ls'.map V.int)) ∧ Sm ls' ∧ ls'.length ≤ 60 * i + 1 + j) ⟨⟨_, _, rfl⟩, e2.mut hp, ls ++ [n % 1000000], by rw [List.map_append]; exact upd_same, h2.snoc (mod_lo _ (by decide)) (mod_hi _ (by decide)), by rw [List.length_append]; simp; omega⟩ (fun j σ H3 hj ⟨⟨o3, o4, e⟩, e3, ls', g1, g2, g3⟩ => ?_) (fun σ H3 ⟨⟨o3, o4, e⟩, e3, ls', g1, g2, g3⟩ => ?_)⟩
      · subst e
        refine ⟨_, rfl, .inl ⟨rfl, _, .inl (.inl g1)⟩, _, rfl, _, _, rfl, rfl, (by show (0 : Int) < 2147483647; decide), _, rfl, _, _, rfl, fun r1 _ _ => ?_⟩
        refine ⟨_, rfl, _, _, rfl, rfl, _, _, rfl, fun r2 _ _ => ?_⟩
        refine ⟨_, _, rfl, rfl, (by show (0 : Int) < 1000000; decide), p, _, _, rfl, rfl, g1, big_sz (by rw [List.length_map]; omega), ?_⟩
        refine ⟨⟨_, _, rfl⟩, e3.mut hp, ls' ++ [r2 % 1000000], by rw [List.map_append]; exact upd_same, g2.snoc (mod_lo _ (by decide)) (mod_hi _ (by decide)), by rw [List.length_append]; simp; omega⟩
      · subst e
        exact ⟨⟨_, _, _, rfl⟩, e3, ls', g1, g2, by omega⟩
  · subst e
    rw [List.length_map] at h3
    exact ⟨_, rfl, q p ls H' e2 hp h1 h2 (by omega)⟩
/-! ### a draw -/
def Dr (H : Hp) (dr l : Addr) : Prop := ∃ at_ : Nat, ∃ ls : List Int, H dr = some (.lst [.ref l, .int (at_ : Nat)]) ∧ H l = some (.lst (ls.map V.int)) ∧ Sm ls ∧ ls.length ≤ 10000
theorem Dr.get {H H1 : Hp} {dr l : Addr} {S : List Addr} (h : Dr H dr l) (x : Ext S H H1) (h1 : dr ∉ S) (h2 : l ∉ S) : Dr H1 dr l := by
  obtain ⟨a, ls, k1, k2, k3⟩ := h
  exact ⟨a, ls, x.get k1 h1, x.get k2 h2, k3⟩
theorem Dr.get0 {H H1 : Hp} {dr l : Addr} (h : Dr H dr l) (x : Ext [] H H1) : Dr H1 dr l := h.get x (by simp) (by simp)
def spDraw (K : PySem.W.Frag) : L2.Sp := fun vs H Q _ => ∃ dr l, vs = [.ref dr] ∧ Dr H dr l ∧ dr ≠ l ∧ ∀ (r : Nat) H', r < 1000000 → Ext [dr] H H' → Dr H' dr l → Q (.int (r : Nat)) H'
theorem sc_law_draw : FnScope ["_law_draws", "_law_at", "_law_first"] ["_law_draws"] (defScope s_law_draw) := ⟨rfl, rfl, rfl, by decide +kernel, rfl, by decide +kernel, by decide +kernel⟩
theorem hs_draw (T : Tx w K mg) (D : Dn K mg "_law_draw" s_law_draw f) (h_law_mixed : Hs P w K mg base CX0 1 "_law_mixed" ["_law_number", "_law_k"] spMixed) : Hs P w K mg base CX0 2 "_law_draw" ["_law_draws"] (spDraw K) := by
  refine Hs.of D sc_law_draw (fun vs H Q E h => ?_) (fun _ _ _ _ _ _ us hl => match us, hl with | [_], _ => rfl) (fun cdv A outer s H vs Q E hr h => ?_)
  · obtain ⟨dr, l, rfl, _⟩ := h
    rfl
  obtain ⟨dr, l, rfl, ⟨at_, ls, h1, h2, h3, h4⟩, hne, q⟩ := h
  refine ⟨_, PSs.nox (pss_cons (ps_set (i := 1) sc_law_draw.nd rfl (by first | exact Or.inl rfl | exact Or.inr rfl) (pe_ix ix_list (pv 0) pe_int (fun _ _ => rfl)))
      (pss_cons (ps_asg (pe_op op_add (pv 1) pe_int) (pg_sub (pv 0) pe_int set_list))
      (pss_cons (ps_if (pt_cmpR op_lt (pv 1) (pe_callB call_len_seq (by rfl) T.zlen PySem.boot_len (pa_cons (pe_ix ix_list (pv 0) pe_int (fun _ _ => rfl)) pa_nil)) (nomark _)) (pss_one (ps_ret (pe_ix ix_list (pe_ix ix_list (pv 0) pe_int (fun _ _ => rfl)) (pv 1) (fun _ _ => rfl)))) pss_nil)
      (pss_cons (ps_set (i := 2) sc_law_draw.nd rfl (by first | exact Or.inl rfl | exact Or.inr rfl) (pe_op op_add pe_int (pv 1)))
      (pss_cons (ps_if (pt_cmpR op_gt (pe_callB call_len_seq (by rfl) T.zlen PySem.boot_len (pa_cons (pe_ix ix_list (pv 0) pe_int (fun _ _ => rfl)) pa_nil)) pe_int (nomark _)) (pss_one (ps_set (i := 2) sc_law_draw.nd rfl (by first | exact Or.inl rfl | exact Or.inr rfl) (pe_op op_add (pv 2) (pe_op op_mul pe_int (pe_ix ix_list (pe_ix ix_list (pv 0) pe_int (fun _ _ => rfl)) pe_int (fun _ _ => rfl)))))) pss_nil)
      (pss_one (ps_ret (pe_op op_mod (pe_h h_law_mixed (hr.mono (by omega)) rfl pass0 (pa_cons (pe_h h_law_mixed (hr.mono (by omega)) rfl pass0 (pa_cons (pv 2) (pa_cons (pv 1) pa_nil))) (pa_cons pe_int pa_nil))) pe_int)))))))), ?_⟩
  refine ⟨_, rfl, _, _, _, _, rfl, rfl, .inl (.inl h1), rfl, ?_⟩
  refine ⟨_, rfl, _, _, rfl, rfl, _, rfl, dr, _, _, _, rfl, rfl, h1, rfl, ?_⟩
  have x1 : Ext [dr] H (upd H dr (.lst [.ref l, .int ((at_ : Nat) + 1)])) := Ext.put .refl (by simp) h1 rfl
  have k1 : upd H dr (.lst [.ref l, .int ((at_ : Nat) + 1)]) dr = some (.lst [.ref l, .int ((at_ + 1 : Nat) : Int)]) := upd_same
  have k2 : upd H dr (.lst [.ref l, .int ((at_ : Nat) + 1)]) l = some (.lst (ls.map V.int)) := (upd_ne hne.symm).trans h2
  have D1 : Dr (upd H dr (.lst [.ref l, .int ((at_ : Nat) + 1)])) dr l := ⟨_, ls, k1, k2, h3, h4⟩
  have fin : ∀ r : Int, 0 ≤ r → r < 1000000 → Q (.int r) (upd H dr (.lst [.ref l, .int ((at_ : Nat) + 1)])) := fun r g1 g2 => by
    have z := q r.toNat _ (by omega) x1 D1
    rw [Int.toNat_of_nonneg g1] at z
    exact z
  refine ⟨_, rfl, _, rfl, _, _, _, _, rfl, rfl, .inl (.inl k1), rfl, _, _, rfl, .inl (.inl (.inl k2)), _, _, rfl, rfl, _, rfl, ?_⟩
  refine ifB (fun hb => ?_) (fun hb => ?_)
  · have hb := of_decide_eq_true hb
    rw [List.length_map] at hb
    have hlt : at_ < ls.length := by omega
    have hx : (ls.map V.int)[at_]? = some (.int ls[at_]) := by rw [List.getElem?_map, List.getElem?_eq_getElem hlt]; rfl
    obtain ⟨g1, g2⟩ := h3 _ (List.getElem_mem hlt)
    refine ⟨_, rfl, _, _, _, _, rfl, rfl, .inl (.inl k1), rfl, _, rfl, _, _, _, _, rfl, rfl, .inl (.inl k2), atI_nat hx, ?_⟩
    exact fin _ g1 g2
  · refine ⟨_, rfl, _, _, rfl, rfl, ?_⟩
    have last : ∀ n : Int, ∀ σ : L2.St, σ = [some (.ref dr), some (.int (at_ : Nat)), some (.int n)] → tRet (tOp (rI (fun x j => 0 < j) fun i j => .int (i % j)) (tCall spMixed [] E0 (tCons (tCall spMixed [] E0 (tCons (tVar 2) (tCons (tVar 1) tNil))) (tCons (tC (.int 5)) tNil))) (tC (.int 1000000))) { nx := fun x H' => Q V.non H', rt := Q } σ (upd H dr (.lst [.ref l, .int ((at_ : Nat) + 1)])) := by
      intro n σ hσ
      subst hσ
      refine ⟨_, rfl, _, rfl, _, _, rfl, fun r1 _ _ => ⟨_, _, rfl, fun r2 _ _ => ⟨_, _, rfl, rfl, (by show (0 : Int) < 1000000; decide), fin _ (mod_lo _ (by decide)) (mod_hi _ (by decide))⟩⟩⟩
    refine ⟨_, rfl, _, _, _, _, rfl, rfl, .inl (.inl k1), rfl, _, _, rfl, .inl (.inl (.inl k2)), _, _, rfl, rfl, _, rfl, ?_⟩
    refine ifB (fun hb => ?_) (fun hb => ?_)
    · have hb := of_decide_eq_true hb
      rw [List.length_map] at hb
      have hlt : 0 < ls.length := by omega
      have hx : (ls.map V.int)[0]? = some (.int ls[0]) := by rw [List.getElem?_map, List.getElem?_eq_getElem hlt]; rfl
      refine ⟨_, rfl, _, rfl, _, _, _, _, rfl, rfl, .inl (.inl k1), rfl, _, _, _, _, rfl, rfl, .inl (.inl k2), atI_nat (j := 0) hx, _, _, rfl, rfl, .inl ⟨by decide, by decide⟩, _, _, rfl, rfl, ?_⟩
      exact last _ _ rfl
    · exact last _ _ rfl
end
end Say
set_option maxRecDepth 100000
set_option maxHeartbeats 4000000
/-! the law: what a formula is drawn of -/
namespace Say
open PySem PySem.Spec PyProof.Rows L2 Fm
/-! ### lists of represented things -/
def All2 {α : Type} (R : α → V → Prop) : List α → List V → Prop
  | [], us => us = []
  | x :: xs, us => ∃ u r, us = u :: r ∧ R x u ∧ All2 R xs r
section
variable {α : Type} {R R' : α → V → Prop}
theorem All2.mono (h : ∀ x u, R x u → R' x u) : ∀ {xs : List α} {us : List V}, All2 R xs us → All2 R' xs us
  | [], us, q => q
  | x :: xs, us, ⟨u, r, e, a, b⟩ => ⟨u, r, e, h x u a, All2.mono h b⟩
theorem All2.length : ∀ {xs : List α} {us : List V}, All2 R xs us → us.length = xs.length
  | [], us, h => by rw [show us = [] from h]; rfl
  | x :: xs, us, ⟨u, r, e, _, b⟩ => by rw [e]; exact congrArg Nat.succ (All2.length b)
theorem All2.app : ∀ {xs ys : List α} {us vs : List V}, All2 R xs us → All2 R ys vs → All2 R (xs ++ ys) (us ++ vs)
  | [], ys, us, vs, h, q => by rw [show us = [] from h]; exact q
  | x :: xs, ys, us, vs, ⟨u, r, e, a, b⟩, q => by rw [e]; exact ⟨u, r ++ vs, rfl, a, All2.app b q⟩
theorem All2.one {x : α} {u : V} (h : R x u) : All2 R [x] [u] := ⟨u, [], rfl, h, rfl⟩
theorem All2.get : ∀ {xs : List α} {us : List V} {i : Nat} {u : V}, All2 R xs us → us[i]? = some u → ∃ x, xs[i]? = some x ∧ R x u
  | [], us, i, u, h, e => by rw [show us = [] from h] at e; simp at e
  | x :: xs, us, 0, u, ⟨u', r, e1, a, b⟩, e => by
    rw [e1] at e
    simp only [List.getElem?_cons_zero, Option.some.injEq] at e
    rw [← e]
    exact ⟨x, rfl, a⟩
  | x :: xs, us, i + 1, u, ⟨u', r, e1, a, b⟩, e => by
    rw [e1] at e
    exact All2.get (xs := xs) (us := r) (i := i) b (by simpa using e)
theorem All2.take (n : Nat) : ∀ {xs : List α} {us : List V}, All2 R xs us → All2 R (xs.take n) (us.take n) := by
  induction n with
  | zero => intro xs us _; rfl
  | succ n ih =>
    intro xs us h
    cases xs with
    | nil => rw [show us = [] from h]; rfl
    | cons x xs =>
      obtain ⟨u, r, e, a, b⟩ := h
      rw [e]
      exact ⟨u, r.take n, rfl, a, ih b⟩
end
theorem sv_snoc {xs : List Str} {y : Str} : sv (xs ++ [y]) = sv xs ++ [V.str y] := List.map_append
theorem pick_at {α : Type} (xs : List α) (r : Nat) (h : 0 < xs.length) : ∃ x, xs[r % xs.length]? = some x ∧ x ∈ xs :=
  ⟨_, List.getElem?_eq_getElem (Nat.mod_lt _ h), List.getElem_mem _⟩
theorem pick_sv (xs : List Str) (r : Nat) (h : 0 < xs.length) : ∃ x, (sv xs)[r % (sv xs).length]? = some (.str x) ∧ x ∈ xs := by
  obtain ⟨v, h1, h2⟩ := pick_at (sv xs) r (by rw [List.length_map]; exact h)
  obtain ⟨x, hx, e⟩ := List.mem_map.mp h2
  exact ⟨x, by rw [h1, ← e], hx⟩
theorem getElem_cons_perm {α : Type} : ∀ {l : List α} {i : Nat} {y : α}, l[i]? = some y → (y :: l.eraseIdx i).Perm l
  | [], i, y, h => by simp at h
  | x :: l, 0, y, h => by
    simp only [List.getElem?_cons_zero, Option.some.injEq] at h
    rw [h]
    exact .refl _
  | x :: l, i + 1, y, h => by
    have q := getElem_cons_perm (l := l) (i := i) (by simpa using h)
    exact (List.Perm.swap x y _).trans (q.cons x)
theorem map_erase {α β : Type} (f : α → β) : ∀ (l : List α) (i : Nat), (l.map f).eraseIdx i = (l.eraseIdx i).map f
  | [], i => rfl
  | x :: l, 0 => rfl
  | x :: l, i + 1 => by
    show f x :: (l.map f).eraseIdx i = f x :: (l.eraseIdx i).map f
    rw [map_erase f l i]
section
variable {P : Program} {w : World} {K : PySem.W.Frag} {mg : Str → Option Value} {base : Heap} {f : Addr} {B : Nat}
theorem seqIx {n i : Nat} (h : i < n) : seqIndex? ((i : Nat) : Int) n = some i := by
  unfold seqIndex?
  simp
  omega
def spSome (K : PySem.W.Frag) : L2.Sp := fun vs H Q _ => ∃ dr l pl, ∃ pool : List Str, ∃ mz : Int, ∃ m : Nat, mz = (m : Nat) ∧ vs = [.ref dr, .ref pl, .int mz] ∧ Dr H dr l ∧ dr ≠ l ∧ SqL K H pl (sv pool) ∧ pool.Nodup ∧ pool.length ≤ 100 ∧ m ≤ pool.length ∧
  ∀ vs' p H', Ext [dr] H H' → Dr H' dr l → H' p = some (.lst (sv vs')) → H p = none → vs'.length = m → vs'.Nodup → (∀ x ∈ vs', x ∈ pool) → Q (.ref p) H'
theorem sc_law_some_of : FnScope ["_law_draws", "_law_pool", "_law_many", "_law_left", "_law_chosen", "_law_k"] ["_law_draws", "_law_pool", "_law_many"] (defScope s_law_some_of) := ⟨rfl, rfl, rfl, by decide +kernel, rfl, by decide +kernel, by decide +kernel⟩
theorem hs_some_of (T : Tx w K mg) (D : Dn K mg "_law_some_of" s_law_some_of f) (h_law_draw : Hs P w K mg base CX0 2 "_law_draw" ["_law_draws"] (spDraw K)) : Hs P w K mg base CX0 3 "_law_some_of" ["_law_draws", "_law_pool", "_law_many"] (spSome K) := by
  refine Hs.of D sc_law_some_of (fun vs H Q E h => ?_) (fun _ _ _ _ _ _ us hl => match us, hl with | [_, _, _], _ => rfl) (fun cdv A outer s H vs Q E hr h => ?_)
  · obtain ⟨dr, l, pl, pool, _, m, rfl, rfl, _⟩ := h
    rfl
  obtain ⟨dr, l, pl, pool, _, m, rfl, rfl, D, ne, hp, nd, hpl, hm, q⟩ := h
  refine ⟨_, PSs.nox (pss_cons (ps_set (i := 3) sc_law_some_of.nd rfl (by first | exact Or.inl rfl | exact Or.inr rfl) (pe_callTy call_list_of (by rfl) T.zlist (by decide +kernel) (pa_cons (pv 1) pa_nil)))
      (pss_cons (ps_set (i := 4) sc_law_some_of.nd rfl (by first | exact Or.inl rfl | exact Or.inr rfl) (pe_lst pa_nil))
      (pss_cons (ps_for PassesOwn.never rfl (pi_range1 rfl T.zrange (pa_cons (pv 2) pa_nil)) (pg_name (i := 5) sc_law_some_of.nd rfl (by first | exact Or.inl rfl | exact Or.inr rfl)) (pss_one (ps_expr (pe_bm PySem.F.plainAttrs_list PySem.F.slot_list_append PySem.F.type_list_append mt_append (pv 4) (pa_cons (pe_bm PySem.F.plainAttrs_list PySem.F.slot_list_pop PySem.F.type_list_pop mt_popAt (pv 3) (pa_cons (pe_op op_mod (pe_h h_law_draw (hr.mono (by omega)) rfl pass0 (pa_cons (pv 0) pa_nil)) (pe_callB call_len_seq (by rfl) T.zlen PySem.boot_len (pa_cons (pv 3) pa_nil))) pa_nil)) pa_nil)))))
      (pss_one (ps_ret (pv 4)))))), ?_⟩
  refine ⟨_, rfl, pl, _, rfl, .inl hp, fun p1 hp1 => ?_⟩
  have e1 : Ext [] H (upd H p1 (.lst (sv pool))) := .new hp1
  refine ⟨sz 0 rfl, fun p2 hp2 => ?_⟩
  have e2 := e1.add (o := .lst []) hp2
  have hp20 := e1.free p2 hp2
  have n12 : p1 ≠ p2 := ne_of_none (o := .lst (sv pool)) upd_same hp2
  have nd1 : p1 ≠ dr := by obtain ⟨_, _, k1, _⟩ := D; exact (ne_of_none k1 hp1).symm
  have nd2 : p2 ≠ dr := by obtain ⟨_, _, k1, _⟩ := D; exact (ne_of_none k1 hp20).symm
  have nl1 : p1 ≠ l := by obtain ⟨_, _, _, k1, _⟩ := D; exact (ne_of_none k1 hp1).symm
  have nl2 : p2 ≠ l := by obtain ⟨_, _, _, k1, _⟩ := D; exact (ne_of_none k1 hp20).symm
  refine ⟨_, rfl, (m : Nat), rfl, by omega, by omega, for_range (n := m) (fun i σ H' => (∃ o, σ = [some (.ref dr), some (.ref pl), some (.int (m : Nat)), some (.ref p1), some (.ref p2), o]) ∧ Ext [dr] H H' ∧ Dr H' dr l ∧ ∃ vs ws : List Str, H' p1 = some (.lst (sv ws)) ∧ H' p2 = some (.lst (sv vs)) ∧ vs.length = i ∧ (vs ++ ws).Perm pool) ⟨⟨_, rfl⟩, e2.any, D.get0 e2, [], pool, (Ext.new (S := []) hp2).get0 upd_same, upd_same, rfl, .refl _⟩
    (fun i σ H' hi ⟨⟨o, e⟩, e3, D3, vs, ws, h1, h2, h3, h4⟩ => ?_) (fun σ H' ⟨⟨o, e⟩, e3, D3, vs, ws, h1, h2, h3, h4⟩ => ?_)⟩
  · subst e
    have hlen := h4.length_eq
    rw [List.length_append] at hlen
    have hws : 0 < ws.length := by omega
    refine ⟨_, rfl, .inl ⟨rfl, _, .inl (.inl h2)⟩, _, rfl, .inl ⟨rfl, _, .inl (.inl h1)⟩, ?_⟩
    refine ⟨_, rfl, dr, l, rfl, D3, ne, fun r H4 hr e4 D4 => ?_⟩
    have h1' := e4.get h1 (by simp [nd1])
    have h2' := e4.get h2 (by simp [nd2])
    obtain ⟨y, hy, hyw⟩ := pick_sv ws r hws
    have hlt : r % (sv ws).length < (sv ws).length := Nat.mod_lt _ (by rw [List.length_map]; exact hws)
    have hsl : (sv ws).length = ws.length := List.length_map _
    refine ⟨_, rfl, _, _, rfl, .inl (.inl (.inl h1')), _, _, rfl, rfl, (by show (0 : Int) < ((sv ws).length : Nat); omega), ?_⟩
    refine ⟨p1, sv ws, ((r % (sv ws).length : Nat) : Int), _, .str y, rfl, rfl, h1', by omega, by omega, seqIx hlt, hy, ?_⟩
    have h2'' : upd H4 p1 (.lst ((sv ws).eraseIdx (r % (sv ws).length))) p2 = some (.lst (sv vs)) := (upd_ne n12.symm).trans h2'
    refine ⟨p2, _, _, rfl, rfl, h2'', big_sz (by rw [List.length_map]; omega), ?_⟩
    have x5 : Ext [p1, p2] H4 (upd (upd H4 p1 (.lst ((sv ws).eraseIdx (r % (sv ws).length)))) p2 (.lst (sv vs ++ [.str y]))) := (Ext.put .refl (by simp) h1' rfl).put (by simp) h2'' rfl
    refine ⟨⟨_, rfl⟩, ((e3.trans e4).mut hp1).mut hp20, D4.get x5 (by simp [nd1.symm, nd2.symm]) (by simp [nl1.symm, nl2.symm]), vs ++ [y], ws.eraseIdx (r % (sv ws).length), ?_, ?_, by simp [h3], ?_⟩
    · rw [upd_ne n12, upd_same, map_erase]
    · rw [upd_same, sv_snoc]
    · have hy' : ws[r % (sv ws).length]? = some y := by
        rw [List.getElem?_map] at hy
        obtain ⟨y', h, e⟩ := Option.map_eq_some_iff.mp hy
        rw [h, V.str.inj e]
      rw [List.append_assoc]
      exact ((getElem_cons_perm hy').append_left vs).trans h4
  · subst e
    have hnd := h4.nodup_iff.mpr nd
    exact ⟨_, rfl, q vs p2 H' e3 D3 h2 hp20 h3 (List.nodup_append.mp hnd).1 fun x hx => h4.mem_iff.mp (List.mem_append_left _ hx)⟩
/-! ### the names at hand -/
def Nr (K : PySem.W.Frag) (H : Hp) (p : Str × Nat × Nat) (u : V) : Prop := ∃ a, u = .ref a ∧ SqT K H a [.str p.1, .int (p.2.1 : Nat), .int (p.2.2 : Nat)]
theorem Nr.ext {S : List Addr} {H H1 : Hp} (x : Ext S H H1) (p : Str × Nat × Nat) (u : V) (h : Nr K H p u) : Nr K H1 p u := by
  obtain ⟨a, e, h⟩ := h
  exact ⟨a, e, x.tup h⟩
def Nl (K : PySem.W.Frag) (H : Hp) (a : Addr) (ns : Ns) : Prop := ∃ us, SqL K H a us ∧ All2 (Nr K H) ns us
theorem Nl.ext {S : List Addr} {H H1 : Hp} {a : Addr} {ns : Ns} (h : Nl K H a ns) (x : Ext S H H1) (n : a ∉ S) : Nl K H1 a ns := by
  obtain ⟨us, h1, h2⟩ := h
  exact ⟨us, x.lst h1 n, h2.mono fun p u => Nr.ext x p u⟩
def spWithin (K : PySem.W.Frag) : L2.Sp := fun vs H Q _ => ∃ nl ns nm, ∃ k m : Nat, vs = [.ref nl, .str nm, .int (k : Nat), .int (m : Nat)] ∧ Nl K H nl ns ∧ ns.length ≤ 500 ∧ ∀ p H', Ext [] H H' → Nl K H' p (within ns nm k m) → H p = none → Q (.ref p) H'
theorem sc_law_within : FnScope ["_law_names_here", "_law_name", "_law_arity", "_law_mode", "_law_one"] ["_law_names_here", "_law_name", "_law_arity", "_law_mode"] (defScope s_law_within) := ⟨rfl, rfl, rfl, by decide +kernel, rfl, by decide +kernel, by decide +kernel⟩
theorem hs_within (T : Tx w K mg) (D : Dn K mg "_law_within" s_law_within f) : Hs P w K mg base CX0 1 "_law_within" ["_law_names_here", "_law_name", "_law_arity", "_law_mode"] (spWithin K) := by
  refine Hs.of D sc_law_within (fun vs H Q E h => ?_) (fun _ _ _ _ _ _ us hl => match us, hl with | [_, _, _, _], _ => rfl) (fun cdv A outer s H vs Q E hr h => ?_)
  · obtain ⟨nl, ns, nm, k, m, rfl, _⟩ := h
    rfl
  obtain ⟨nl, ns, nm, k, m, rfl, ⟨us, hl, hns⟩, hz, q⟩ := h
  refine ⟨_, PSs.nox (pss_one (ps_ret (pe_op op_cat (pe_lc (own := [("_law_one", 4)]) (g := gName 4) rfl sc_law_within.nd (pi_list (pv 0)) (blkOk_by (own := [("_law_one", 4)]) (N := ["_law_names_here", "_law_name", "_law_arity", "_law_mode", "_law_one"]) (sc := defScope s_law_within) (by decide +kernel)) (fun _ _ _ _ _ => pg_name (i := 4) sc_law_within.nd rfl (Or.inl rfl)) (fun _ _ _ _ _ => pts_one (pt_cmpR op_ne (pe_ix (ix_tupB (K := K) rfl) (pv 4) pe_int (fun _ _ => rfl)) (pv 1) (nomark _))) (fun _ _ _ _ _ => (pv 4))) (pe_lst (pa_cons (pe_tup (pa_cons (pv 1) (pa_cons (pv 2) (pa_cons (pv 3) pa_nil)))) pa_nil))))), ?_⟩
  refine ⟨_, rfl, nl, rfl, ⟨_, hl⟩, fun B hB => ?_⟩
  have hul := hns.length
  refine lc_list (xs := us) (fun i H' => ∃ zs, H' B = some (.lst zs) ∧ All2 (Nr K H') ((ns.take i).filter (fun p => !decide (p.1 = nm))) zs ∧ zs.length ≤ i ∧ Ext [] H H') ⟨[], upd_same, rfl, Nat.le_refl _, .new hB⟩ (fun i H' _ ⟨_, _, _, _, e⟩ => e.lst0 hl) (fun i u H' hu ⟨zs, h1, h2, h3, e⟩ => ?_) (fun H' ⟨zs, h1, h2, h3, e⟩ => ?_)
  · obtain ⟨p, hp, a, rfl, ha⟩ := hns.get hu
    have hi : i < us.length := by
      rcases Nat.lt_or_ge i us.length with a | a
      · exact a
      · rw [List.getElem?_eq_none a] at hu; cases hu
    refine ⟨rfl, ?_⟩
    refine ⟨_, rfl, _, _, _, _, rfl, rfl, e.tup ha, rfl, _, rfl, rfl, _, rfl, ?_⟩
    cases hd : decide (p.1 = nm) with
    | true =>
      refine ifF (by rw [str_eq, hd]; rfl) ?_
      refine ⟨zs, h1, ?_, by omega, e⟩
      rw [(take_step hp).1, List.filter_append]
      simpa [hd] using h2
    | false =>
      refine ifT (by rw [str_eq, hd]; rfl) ?_
      refine ⟨_, rfl, zs, h1, big_sz (by omega), zs ++ [.ref a], upd_same, ?_, by simp; omega, e.mut hB⟩
      have x : Ext [B] H' (upd H' B (.lst (zs ++ [.ref a]))) := Ext.put .refl (by simp) h1 rfl
      rw [(take_step hp).1, List.filter_append, show [p].filter (fun p => !decide (p.1 = nm)) = [p] by simp [hd]]
      exact (h2.mono fun p u => Nr.ext x p u).app (All2.one ⟨a, rfl, (e.mut hB).tup ha⟩)
  · rw [hul, List.take_length] at h2
    refine ⟨_, rfl, _, rfl, _, rfl, sz 3 rfl, fun p1 hp1 => ⟨sz 1 rfl, fun p2 hp2 => ?_⟩⟩
    have x1 : Ext [] H' (upd H' p1 (.tup [.str nm, .int (k : Nat), .int (m : Nat)])) := .new hp1
    have x2 := x1.add (o := .lst [.ref p1]) hp2
    refine ⟨B, p2, _, _, rfl, rfl, x2.get0 h1, upd_same, small_sz (by show zs.length + 1 ≤ 1000; omega), fun p3 hp3 => ?_⟩
    have x3 := x2.add (o := .lst (zs ++ [.ref p1])) hp3
    refine q p3 _ (e.trans x3) ⟨_, .inl (.inl upd_same), ?_⟩ ((e.trans x2).free p3 hp3)
    exact (h2.mono fun p u => Nr.ext x3 p u).app (All2.one ⟨p1, rfl, ((Ext.new (S := []) hp2).add hp3).tup (SqT.of upd_same)⟩)
def spTurned (K : PySem.W.Frag) : L2.Sp := fun vs H Q _ => ∃ nl ns, vs = [.ref nl] ∧ Nl K H nl ns ∧ ns.length ≤ 500 ∧ (∀ p ∈ ns, p.2.2 ≤ 3) ∧ ∀ p H', Ext [] H H' → Nl K H' p (turned ns) → H p = none → Q (.ref p) H'
theorem sc_law_turned : FnScope ["_law_names_here", "_law_one"] ["_law_names_here"] (defScope s_law_turned) := ⟨rfl, rfl, rfl, by decide +kernel, rfl, by decide +kernel, by decide +kernel⟩
theorem hs_turned (T : Tx w K mg) (D : Dn K mg "_law_turned" s_law_turned f) : Hs P w K mg base CX0 1 "_law_turned" ["_law_names_here"] (spTurned K) := by
  refine Hs.of D sc_law_turned (fun vs H Q E h => ?_) (fun _ _ _ _ _ _ us hl => match us, hl with | [_], _ => rfl) (fun cdv A outer s H vs Q E hr h => ?_)
  · obtain ⟨nl, ns, rfl, _⟩ := h
    rfl
  obtain ⟨nl, ns, rfl, ⟨us, hl, hns⟩, hz, h3m, q⟩ := h
  refine ⟨_, PSs.nox (pss_one (ps_ret (pe_lc (own := [("_law_one", 1)]) (g := gName 1) rfl sc_law_turned.nd (pi_list (pv 0)) (blkOk_by (own := [("_law_one", 1)]) (N := ["_law_names_here", "_law_one"]) (sc := defScope s_law_turned) (by decide +kernel)) (fun _ _ _ _ _ => pg_name (i := 1) sc_law_turned.nd rfl (Or.inl rfl)) (fun _ _ _ _ _ => pts_nil) (fun _ _ _ _ _ => (pe_tup (pa_cons (pe_ix (ix_tupB (K := K) rfl) (pv 1) pe_int (fun _ _ => rfl)) (pa_cons (pe_ix (ix_tupB (K := K) rfl) (pv 1) pe_int (fun _ _ => rfl)) (pa_cons (pe_ix (ix_listB (K := K) rfl) (pe_lst (pa_cons pe_int (pa_cons pe_int (pa_cons pe_int (pa_cons pe_int pa_nil))))) (pe_ix (ix_tupB (K := K) rfl) (pv 1) pe_int (fun _ _ => rfl)) (fun _ _ => rfl)) pa_nil)))))))), ?_⟩
  refine ⟨_, rfl, nl, rfl, ⟨_, hl⟩, fun B hB => ?_⟩
  have hul := hns.length
  refine lc_list (xs := us) (fun i H' => ∃ zs, H' B = some (.lst zs) ∧ All2 (Nr K H') (turned (ns.take i)) zs ∧ zs.length ≤ i ∧ Ext [] H H') ⟨[], upd_same, rfl, Nat.le_refl _, .new hB⟩ (fun i H' _ ⟨_, _, _, _, e⟩ => e.lst0 hl) (fun i u H' hu ⟨zs, h1, h2, h3, e⟩ => ?_) (fun H' ⟨zs, h1, h2, h3, e⟩ => ?_)
  · obtain ⟨p, hp, a, rfl, ha⟩ := hns.get hu
    have hi : i < us.length := by
      rcases Nat.lt_or_ge i us.length with a | a
      · exact a
      · rw [List.getElem?_eq_none a] at hu; cases hu
    have hm3 := h3m p (List.mem_of_getElem? hp)
    refine ⟨rfl, ?_⟩
    refine ⟨_, rfl, _, _, _, _, rfl, rfl, e.tup ha, rfl, _, rfl, _, _, _, _, rfl, rfl, e.tup ha, rfl, sz 4 rfl, fun p1 hp1 => ?_⟩
    have x1 : Ext [] H' (upd H' p1 (.lst [.int 0, .int 2, .int 1, .int 3])) := .new hp1
    have hlk : (([.int 0, .int 2, .int 1, .int 3] : List V))[p.2.2]? = some (.int (tmode p.2.2 : Nat)) := by
      have : p.2.2 = 0 ∨ p.2.2 = 1 ∨ p.2.2 = 2 ∨ p.2.2 = 3 := by omega
      rcases this with h | h | h | h <;> rw [h] <;> rfl
    refine ⟨_, rfl, _, _, _, _, rfl, rfl, (e.trans x1).tup ha, rfl, _, _, _, _, rfl, rfl, .inl (.inl upd_same), atI_nat hlk, sz 3 rfl, fun p2 hp2 => ?_⟩
    have x2 := x1.add (o := .tup [.str p.1, .int (p.2.1 : Nat), .int (tmode p.2.2 : Nat)]) hp2
    have hB2 := x2.get0 h1
    have x3 : Ext [B] _ (upd (upd (upd H' p1 (.lst [.int 0, .int 2, .int 1, .int 3])) p2 (.tup [.str p.1, .int (p.2.1 : Nat), .int (tmode p.2.2 : Nat)])) B (.lst (zs ++ [.ref p2]))) := Ext.put .refl (by simp) hB2 rfl
    refine ⟨zs, hB2, big_sz (by omega), zs ++ [.ref p2], upd_same, ?_, by simp; omega, (e.trans x2).mut hB⟩
    rw [(take_step hp).1]
    unfold turned
    rw [List.map_append]
    exact (h2.mono fun p u h => Nr.ext x3 p u (Nr.ext x2 p u h)).app (All2.one ⟨p2, rfl, x3.tup (SqT.of upd_same)⟩)
  · rw [hul, List.take_length] at h2
    exact q B H' e ⟨zs, .inl (.inl h1), h2⟩ hB
def spBarred (K : PySem.W.Frag) : L2.Sp := fun vs H Q _ => ∃ nl ns, vs = [.ref nl] ∧ Nl K H nl ns ∧ ns.length ≤ 500 ∧ (∀ p ∈ ns, p.2.2 ≤ 3) ∧ ∀ p H', Ext [] H H' → Nl K H' p (barred ns) → H p = none → Q (.ref p) H'
theorem sc_law_barred : FnScope ["_law_names_here", "_law_one"] ["_law_names_here"] (defScope s_law_barred) := ⟨rfl, rfl, rfl, by decide +kernel, rfl, by decide +kernel, by decide +kernel⟩
theorem hs_barred (T : Tx w K mg) (D : Dn K mg "_law_barred" s_law_barred f) : Hs P w K mg base CX0 1 "_law_barred" ["_law_names_here"] (spBarred K) := by
  refine Hs.of D sc_law_barred (fun vs H Q E h => ?_) (fun _ _ _ _ _ _ us hl => match us, hl with | [_], _ => rfl) (fun cdv A outer s H vs Q E hr h => ?_)
  · obtain ⟨nl, ns, rfl, _⟩ := h
    rfl
  obtain ⟨nl, ns, rfl, ⟨us, hl, hns⟩, hz, h3m, q⟩ := h
  refine ⟨_, PSs.nox (pss_one (ps_ret (pe_lc (own := [("_law_one", 1)]) (g := gName 1) rfl sc_law_barred.nd (pi_list (pv 0)) (blkOk_by (own := [("_law_one", 1)]) (N := ["_law_names_here", "_law_one"]) (sc := defScope s_law_barred) (by decide +kernel)) (fun _ _ _ _ _ => pg_name (i := 1) sc_law_barred.nd rfl (Or.inl rfl)) (fun _ _ _ _ _ => pts_nil) (fun _ _ _ _ _ => (pe_tup (pa_cons (pe_ix (ix_tupB (K := K) rfl) (pv 1) pe_int (fun _ _ => rfl)) (pa_cons (pe_ix (ix_tupB (K := K) rfl) (pv 1) pe_int (fun _ _ => rfl)) (pa_cons (pe_ix (ix_listB (K := K) rfl) (pe_lst (pa_cons pe_int (pa_cons pe_int (pa_cons pe_int (pa_cons pe_int pa_nil))))) (pe_ix (ix_tupB (K := K) rfl) (pv 1) pe_int (fun _ _ => rfl)) (fun _ _ => rfl)) pa_nil)))))))), ?_⟩
  refine ⟨_, rfl, nl, rfl, ⟨_, hl⟩, fun B hB => ?_⟩
  have hul := hns.length
  refine lc_list (xs := us) (fun i H' => ∃ zs, H' B = some (.lst zs) ∧ All2 (Nr K H') (barred (ns.take i)) zs ∧ zs.length ≤ i ∧ Ext [] H H') ⟨[], upd_same, rfl, Nat.le_refl _, .new hB⟩ (fun i H' _ ⟨_, _, _, _, e⟩ => e.lst0 hl) (fun i u H' hu ⟨zs, h1, h2, h3, e⟩ => ?_) (fun H' ⟨zs, h1, h2, h3, e⟩ => ?_)
  · obtain ⟨p, hp, a, rfl, ha⟩ := hns.get hu
    have hi : i < us.length := by
      rcases Nat.lt_or_ge i us.length with a | a
      · exact a
      · rw [List.getElem?_eq_none a] at hu; cases hu
    have hm3 := h3m p (List.mem_of_getElem? hp)
    refine ⟨rfl, ?_⟩
    refine ⟨_, rfl, _, _, _, _, rfl, rfl, e.tup ha, rfl, _, rfl, _, _, _, _, rfl, rfl, e.tup ha, rfl, sz 4 rfl, fun p1 hp1 => ?_⟩
    have x1 : Ext [] H' (upd H' p1 (.lst [.int 0, .int 3, .int 3, .int 3])) := .new hp1
    have hlk : (([.int 0, .int 3, .int 3, .int 3] : List V))[p.2.2]? = some (.int (bmode p.2.2 : Nat)) := by
      have : p.2.2 = 0 ∨ p.2.2 = 1 ∨ p.2.2 = 2 ∨ p.2.2 = 3 := by omega
      rcases this with h | h | h | h <;> rw [h] <;> rfl
    refine ⟨_, rfl, _, _, _, _, rfl, rfl, (e.trans x1).tup ha, rfl, _, _, _, _, rfl, rfl, .inl (.inl upd_same), atI_nat hlk, sz 3 rfl, fun p2 hp2 => ?_⟩
    have x2 := x1.add (o := .tup [.str p.1, .int (p.2.1 : Nat), .int (bmode p.2.2 : Nat)]) hp2
    have hB2 := x2.get0 h1
    have x3 : Ext [B] _ (upd (upd (upd H' p1 (.lst [.int 0, .int 3, .int 3, .int 3])) p2 (.tup [.str p.1, .int (p.2.1 : Nat), .int (bmode p.2.2 : Nat)])) B (.lst (zs ++ [.ref p2]))) := Ext.put .refl (by simp) hB2 rfl
    refine ⟨zs, hB2, big_sz (by omega), zs ++ [.ref p2], upd_same, ?_, by simp; omega, (e.trans x2).mut hB⟩
    rw [(take_step hp).1]
    unfold barred
    rw [List.map_append]
    exact (h2.mono fun p u h => Nr.ext x3 p u (Nr.ext x2 p u h)).app (All2.one ⟨p2, rfl, x3.tup (SqT.of upd_same)⟩)
  · rw [hul, List.take_length] at h2
    exact q B H' e ⟨zs, .inl (.inl h1), h2⟩ hB
def ns0 : Ns := [("e", 2, 0), ("p", 1, 0), ("q", 0, 0)]
def spNames (K : PySem.W.Frag) : L2.Sp := fun vs H Q _ => ∃ dr l, vs = [.ref dr] ∧ Dr H dr l ∧ dr ≠ l ∧ ∀ k p H', 1 ≤ k → k ≤ 3 → Ext [dr] H H' → Dr H' dr l → Nl K H' p (ns0.take k) → H p = none → Q (.ref p) H'
theorem sc_law_names : FnScope ["_law_draws"] ["_law_draws"] (defScope s_law_names) := ⟨rfl, rfl, rfl, by decide +kernel, rfl, by decide +kernel, by decide +kernel⟩
theorem hs_names (T : Tx w K mg) (D : Dn K mg "_law_names" s_law_names f) (h_law_draw : Hs P w K mg base CX0 2 "_law_draw" ["_law_draws"] (spDraw K)) : Hs P w K mg base CX0 3 "_law_names" ["_law_draws"] (spNames K) := by
  refine Hs.of D sc_law_names (fun vs H Q E h => ?_) (fun _ _ _ _ _ _ us hl => match us, hl with | [_], _ => rfl) (fun cdv A outer s H vs Q E hr h => ?_)
  · obtain ⟨dr, l, rfl, _⟩ := h
    rfl
  obtain ⟨dr, l, rfl, D, ne, q⟩ := h
  refine ⟨_, PSs.nox (pss_one (ps_ret (pe_slice sl_list (pe_lst (pa_cons (pe_tup (pa_cons pe_str (pa_cons pe_int (pa_cons pe_int pa_nil)))) (pa_cons (pe_tup (pa_cons pe_str (pa_cons pe_int (pa_cons pe_int pa_nil)))) (pa_cons (pe_tup (pa_cons pe_str (pa_cons pe_int (pa_cons pe_int pa_nil)))) pa_nil)))) po_none (po_some (pe_op op_add pe_int (pe_op op_mod (pe_h h_law_draw (hr.mono (by omega)) rfl pass0 (pa_cons (pv 0) pa_nil)) pe_int)))))), ?_⟩
  refine ⟨sz 3 rfl, fun p1 h1 => ⟨sz 3 rfl, fun p2 h2 => ⟨sz 3 rfl, fun p3 h3 => ⟨sz 3 rfl, fun p4 h4 => ?_⟩⟩⟩⟩
  have e1 : Ext [] H (upd H p1 (.tup [.str "e", .int 2, .int 0])) := .new h1
  have x2 := Ext.new (S := []) (o := .tup [.str "p", .int 1, .int 0]) h2
  have x3 := Ext.new (S := []) (o := .tup [.str "q", .int 0, .int 0]) h3
  have x4 := Ext.new (S := []) (o := .lst [.ref p1, .ref p2, .ref p3]) h4
  have E4 := e1.trans (x2.trans (x3.trans x4))
  have n4 : p4 ≠ dr := by obtain ⟨_, _, k1, _⟩ := D; exact (ne_of_none ((e1.trans (x2.trans x3)).get0 k1) h4).symm
  refine ⟨_, rfl, dr, l, rfl, D.get0 E4, ne, fun r H5 hr e5 D5 => ?_⟩
  have hN : All2 (Nr K H5) ns0 [.ref p1, .ref p2, .ref p3] := by
    refine ⟨_, _, rfl, ⟨p1, rfl, e5.tup (x4.tup (x3.tup (x2.tup (SqT.of upd_same))))⟩, _, _, rfl, ⟨p2, rfl, e5.tup (x4.tup (x3.tup (SqT.of upd_same)))⟩, _, _, rfl, ⟨p3, rfl, e5.tup (x4.tup (SqT.of upd_same))⟩, rfl⟩
  have h4' := e5.get (upd_same : upd _ p4 (.lst [.ref p1, .ref p2, .ref p3]) p4 = _) (by simp [n4])
  refine ⟨_, _, rfl, rfl, (by show (0 : Int) < 3; decide), _, _, rfl, rfl, _, rfl, p4, _, rfl, .inl (.inl h4'), fun p hp => ?_⟩
  have x6 : Ext [] H5 (upd H5 p (.lst (cutV [.ref p1, .ref p2, .ref p3] none (some (1 + ((r : Nat) : Int) % 3))))) := .new hp
  have hk : cutV [V.ref p1, .ref p2, .ref p3] none (some (1 + ((r : Nat) : Int) % 3)) = ([V.ref p1, .ref p2, .ref p3] : List V).take (1 + r % 3) := by
    have h3 : r % 3 = 0 ∨ r % 3 = 1 ∨ r % 3 = 2 := by omega
    rcases h3 with h | h | h
    · rw [h, show ((r : Nat) : Int) % 3 = 0 by omega]; rfl
    · rw [h, show ((r : Nat) : Int) % 3 = 1 by omega]; rfl
    · rw [h, show ((r : Nat) : Int) % 3 = 2 by omega]; rfl
  have E5 := (E4.any (T := [dr])).trans e5
  refine q (1 + r % 3) p _ (by omega) (by omega) (E5.trans x6.any) (D5.get0 x6) ⟨_, .inl (.inl upd_same), ?_⟩ (E5.free p hp)
  rw [hk]
  rw [hk] at x6
  exact (hN.mono fun p u => Nr.ext x6 p u).take _
end
end Say
set_option maxRecDepth 100000
set_option maxHeartbeats 4000000
/-! the law: a formula is drawn -/
namespace Say
open PySem PySem.Spec PyProof.Rows L2 Fm
section
variable {K : PySem.W.Frag} {σ : L2.St} {H : Hp} {Q : VK} {dr l pl : Addr} {pool : List Str} {d i : Nat}
theorem rd_mod (n : Nat) (hn : 0 < n) (hd : σ[d]? = some (some (.ref dr))) (D : Dr H dr l) (ne : dr ≠ l) (q : ∀ (r : Nat) H', r < n → Ext [dr] H H' → Dr H' dr l → Q (.int (r : Nat)) H') :
    tOp (rI (fun _ j => 0 < j) fun i j => .int (i % j)) (tCall (spDraw K) [] E0 (tCons (tVar d) tNil)) (tC (.int (n : Nat))) σ H Q :=
  ⟨_, hd, dr, l, rfl, D, ne, fun r H' _ e D' => ⟨_, _, rfl, rfl, (by show (0 : Int) < (n : Nat); omega), q (r % n) H' (Nat.mod_lt _ hn) e D'⟩⟩
theorem rd_pick (hd : σ[d]? = some (some (.ref dr))) (hi : σ[i]? = some (some (.ref pl))) (D : Dr H dr l) (ne : dr ≠ l) (hp : SqL K H pl (sv pool)) (hpd : pl ≠ dr) (h0 : 0 < pool.length)
    (q : ∀ x H', x ∈ pool → Ext [dr] H H' → Dr H' dr l → SqL K H' pl (sv pool) → Q (.str x) H') :
    tOp (rIxL K) (tVar i) (tOp (rI (fun _ j => 0 < j) fun i j => .int (i % j)) (tCall (spDraw K) [] E0 (tCons (tVar d) tNil)) (tCB (fun xs H Q => ∃ p ys, xs = [.ref p] ∧ (SqL K H p ys ∨ SqT K H p ys) ∧ Q (.int ys.length) H) (tCons (tVar i) tNil))) σ H Q := by
  refine ⟨_, hi, _, hd, dr, l, rfl, D, ne, fun r H' _ e D' => ?_⟩
  have hp' := e.lst hp (by simp [hpd])
  obtain ⟨x, hx, hxp⟩ := pick_sv pool r h0
  have hl : (sv pool).length = pool.length := List.length_map _
  exact ⟨_, hi, _, _, rfl, .inl hp', _, _, rfl, rfl, (by show (0 : Int) < ((sv pool).length : Nat); omega), _, _, _, _, rfl, rfl, hp', atI_nat hx, q x H' hxp e D' hp'⟩
end
section
variable {P : Program} {w : World} {K : PySem.W.Frag} {mg : Str → Option Value} {base : Heap} {f : Addr} {B : Nat}
def spAtom (K : PySem.W.Frag) : L2.Sp := fun vs H Q _ => ∃ dr l pl, ∃ pool : List Str, ∃ nl, ∃ ns : Ns, vs = [.ref dr, .ref pl, .ref nl] ∧ Dr H dr l ∧ dr ≠ l ∧ SqL K H pl (sv pool) ∧ pl ≠ dr ∧ 0 < pool.length ∧ Nl K H nl ns ∧ nl ≠ dr ∧ ns.length ≤ 500 ∧ (∀ p ∈ ns, p.2.1 ≤ 100) ∧
  ∀ f v H', Ext [dr] H H' → Dr H' dr l → Rp K H' f v → (∀ q, Gf q pool f ns) → dp f = 1 → qn f = 0 → Q v H'
theorem sc_law_atom : FnScope ["_law_draws", "_law_pool", "_law_names_here", "_law_usable", "_law_one", "_law_pick", "_law_k", "_law_word"] ["_law_draws", "_law_pool", "_law_names_here"] (defScope s_law_atom) := ⟨rfl, rfl, rfl, by decide +kernel, rfl, by decide +kernel, by decide +kernel⟩
theorem hs_atom (T : Tx w K mg) (D : Dn K mg "_law_atom" s_law_atom f) (h_law_draw : Hs P w K mg base CX0 2 "_law_draw" ["_law_draws"] (spDraw K)) : Hs P w K mg base CX0 3 "_law_atom" ["_law_draws", "_law_pool", "_law_names_here"] (spAtom K) := by
  refine Hs.of D sc_law_atom (fun vs H Q E h => ?_) (fun _ _ _ _ _ _ us hl => match us, hl with | [_, _, _], _ => rfl) (fun cdv A outer s H vs Q E hr h => ?_)
  · obtain ⟨dr, l, pl, pool, nl, ns, rfl, _⟩ := h
    rfl
  obtain ⟨dr, l, pl, pool, nl, ns, rfl, D, ne, hp, hpd, h0, ⟨us, hl, hns⟩, hnd, hz, hk, q⟩ := h
  refine ⟨_, PSs.nox (pss_cons (ps_setLc (i := 3) (own := [("_law_one", 4)]) (g := gName 4) rfl sc_law_atom.nd rfl rfl (sw_true rfl rfl rfl (by decide +kernel)) (pi_list (pv 2)) (blkOk_by (own := [("_law_one", 4)]) (N := ["_law_draws", "_law_pool", "_law_names_here", "_law_usable", "_law_one", "_law_pick", "_law_k", "_law_word"]) (sc := defScope s_law_atom) (by decide +kernel)) (fun _ _ _ _ _ => pg_name (i := 4) sc_law_atom.nd rfl (Or.inl rfl)) (fun _ _ _ _ _ => pts_one (pt_cmpR op_lt (pe_ix (ix_tupB (K := K) rfl) (pv 4) pe_int (fun _ _ => rfl)) pe_int (nomark _))) (fun _ _ _ _ _ => (pv 4)))
      (pss_cons (ps_set (i := 5) sc_law_atom.nd rfl (by first | exact Or.inl rfl | exact Or.inr rfl) (pe_op op_mod (pe_h h_law_draw (hr.mono (by omega)) rfl pass0 (pa_cons (pv 0) pa_nil)) pe_int))
      (pss_cons (ps_if (PW.pt (pw_and (pt_cmpR op_lt (pv 5) pe_int (nomark _)) (pw_and1 (pt_cmpR op_gt (pe_callB call_len_seq (by rfl) T.zlen PySem.boot_len (pa_cons (pv 3) pa_nil)) pe_int (nomark _))))) (pss_cons (ps_set (i := 4) sc_law_atom.nd rfl (by first | exact Or.inl rfl | exact Or.inr rfl) (pe_ix ix_list (pv 3) (pe_op op_mod (pe_h h_law_draw (hr.mono (by omega)) rfl pass0 (pa_cons (pv 0) pa_nil)) (pe_callB call_len_seq (by rfl) T.zlen PySem.boot_len (pa_cons (pv 3) pa_nil))) (fun _ _ => rfl)))
      (pss_one (ps_ret (pe_tup (pa_cons pe_str (pa_cons (pe_ix ix_tup (pv 4) pe_int (fun _ _ => rfl)) (pa_cons (pe_callTy call_tuple_of (by rfl) T.ztuple (by decide +kernel) (pa_cons (pe_lc (own := [("_law_k", 6)]) (g := gName 6) rfl sc_law_atom.nd (pi_range1 rfl T.zrange (pa_cons (pe_ix ix_tup (pv 4) pe_int (fun _ _ => rfl)) pa_nil)) (blkOk_by (own := [("_law_k", 6)]) (N := ["_law_draws", "_law_pool", "_law_names_here", "_law_usable", "_law_one", "_law_pick", "_law_k", "_law_word"]) (sc := defScope s_law_atom) (by decide +kernel)) (fun _ _ _ _ _ => pg_name (i := 6) sc_law_atom.nd rfl (Or.inl rfl)) (fun _ _ _ _ _ => pts_nil) (fun _ _ _ _ _ => (pe_ix (ix_listB (K := K) rfl) (pv 1) (pe_op op_mod (pe_h h_law_draw (hr.mono (by omega)) rfl pass0 (pa_cons (pv 0) pa_nil)) (pe_callB (call_len_seqB (K := K) rfl) (by rfl) T.zlen PySem.boot_len (pa_cons (pv 1) pa_nil))) (fun _ _ => rfl)))) pa_nil)) pa_nil))))))) pss_nil)
      (pss_cons (ps_set (i := 7) sc_law_atom.nd rfl (by first | exact Or.inl rfl | exact Or.inr rfl) (pe_ix ix_list (pe_lst (pa_cons pe_str (pa_cons pe_str pa_nil))) (pe_op op_mod (pe_h h_law_draw (hr.mono (by omega)) rfl pass0 (pa_cons (pv 0) pa_nil)) pe_int) (fun _ _ => rfl)))
      (pss_one (ps_ret (pe_tup (pa_cons (pv 7) (pa_cons (pe_ix ix_list (pv 1) (pe_op op_mod (pe_h h_law_draw (hr.mono (by omega)) rfl pass0 (pa_cons (pv 0) pa_nil)) (pe_callB call_len_seq (by rfl) T.zlen PySem.boot_len (pa_cons (pv 1) pa_nil))) (fun _ _ => rfl)) (pa_cons (pe_ix ix_list (pv 1) (pe_op op_mod (pe_h h_law_draw (hr.mono (by omega)) rfl pass0 (pa_cons (pv 0) pa_nil)) (pe_callB call_len_seq (by rfl) T.zlen PySem.boot_len (pa_cons (pv 1) pa_nil))) (fun _ _ => rfl)) pa_nil)))))))))), ?_⟩
  have hul := hns.length
  refine ⟨_, rfl, nl, rfl, ⟨_, hl⟩, fun B hB => ?_⟩
  refine lc_list (xs := us) (fun i H' => ∃ zs, ∃ ms : Ns, H' B = some (.lst zs) ∧ All2 (Nr K H') ms zs ∧ (∀ p ∈ ms, p ∈ ns ∧ p.2.2 < 2) ∧ zs.length ≤ i ∧ Ext [] H H') ⟨[], [], upd_same, rfl, by simp, Nat.le_refl _, .new hB⟩ (fun i H' _ ⟨_, _, _, _, _, _, e⟩ => e.lst0 hl) (fun i u H' hu ⟨zs, ms, h1, h2, h3, h4, e⟩ => ?_) (fun H1 ⟨zs, ms, h1, h2, h3, h4, e1⟩ => ?_)
  · obtain ⟨p, hpx, a, rfl, ha⟩ := hns.get hu
    have hi : i < us.length := by
      rcases Nat.lt_or_ge i us.length with a | a
      · exact a
      · rw [List.getElem?_eq_none a] at hu; cases hu
    refine ⟨rfl, ?_⟩
    refine ⟨_, rfl, _, _, _, _, rfl, rfl, e.tup ha, rfl, _, _, rfl, rfl, _, rfl, ?_⟩
    refine ifB (fun hb => ?_) (fun hb => ?_)
    · have hb : ((p.2.2 : Nat) : Int) < 2 := of_decide_eq_true hb
      refine ⟨_, rfl, zs, h1, big_sz (by omega), zs ++ [.ref a], ms ++ [p], upd_same, ?_, ?_, by simp; omega, e.mut hB⟩
      · have x : Ext [B] H' (upd H' B (.lst (zs ++ [.ref a]))) := Ext.put .refl (by simp) h1 rfl
        exact (h2.mono fun p u => Nr.ext x p u).app (All2.one ⟨a, rfl, (e.mut hB).tup ha⟩)
      · intro y hy
        rcases List.mem_append.mp hy with m | m
        · exact h3 y m
        · rw [List.mem_singleton.mp m]
          exact ⟨List.mem_of_getElem? hpx, by omega⟩
    · exact ⟨zs, ms, h1, h2, h3, by omega, e⟩
  · have D1 := D.get0 e1
    have hp1 := e1.lst0 hp
    have nB : B ≠ dr := by obtain ⟨_, _, k1, _⟩ := D; exact (ne_of_none k1 hB).symm
    refine rd_mod 5 (by decide) rfl D1 ne fun r H3 hr e3 D3 => ?_
    have hp3 := e3.lst hp1 (by simp [hpd])
    have hB3 := e3.get h1 (by simp [nB])
    have E3 := (e1.any (T := [dr])).trans e3
    have h23 := h2.mono fun p u => Nr.ext e3 p u
    have cmpl : ∀ H3, Ext [dr] H H3 → Dr H3 dr l → SqL K H3 pl (sv pool) → True := fun _ _ _ _ => trivial
    refine ⟨_, rfl, _, _, rfl, rfl, _, rfl, ifB (fun hb => ?_) (fun hb => ?_)⟩
    · refine ⟨_, rfl, _, _, rfl, .inl (.inl (.inl hB3)), _, _, rfl, rfl, _, rfl, ifB (fun hb2 => ?_) (fun hb2 => ?_)⟩
      · have hb2 : ((zs.length : Nat) : Int) > 0 := of_decide_eq_true hb2
        refine ⟨_, rfl, _, rfl, dr, l, rfl, D3, ne, fun r2 H4 hr2 e4 D4 => ?_⟩
        have hB4 := e4.get hB3 (by simp [nB])
        obtain ⟨v, hv1, _⟩ := pick_at zs r2 (by omega)
        obtain ⟨p, hpx, a, rfl, ha⟩ := (h23.mono fun p u => Nr.ext e4 p u).get hv1
        obtain ⟨pn, pm⟩ := h3 p (List.mem_of_getElem? hpx)
        refine ⟨_, rfl, _, _, rfl, .inl (.inl (.inl hB4)), _, _, rfl, rfl, (by show (0 : Int) < (zs.length : Nat); omega), _, _, _, _, rfl, rfl, .inl (.inl hB4), atI_nat hv1, ?_⟩
        refine ⟨_, rfl, _, _, _, _, rfl, rfl, ha, rfl, ?_⟩
        have hpk := hk p pn
        refine ⟨_, rfl, _, _, _, _, rfl, rfl, ha, rfl, (p.2.1 : Nat), rfl, by omega, by omega, fun B2 hB2 => ?_⟩
        have hp4 := e4.lst hp3 (by simp [hpd])
        have nB2 : B2 ≠ dr := by obtain ⟨_, _, k1, _⟩ := D4; exact (ne_of_none k1 hB2).symm
        have nB2l : B2 ≠ l := by obtain ⟨_, _, _, k1, _⟩ := D4; exact (ne_of_none k1 hB2).symm
        refine lc_range (n := p.2.1) (fun i H' => ∃ args : List Str, H' B2 = some (.lst (sv args)) ∧ args.length = i ∧ (∀ x ∈ args, x ∈ pool) ∧ Ext [dr] H4 H' ∧ Dr H' dr l) ⟨[], upd_same, rfl, by simp, .new hB2, D4.get0 (.new hB2)⟩ (fun i H' hi ⟨args, g1, g2, g3, g4, g5⟩ => ?_) (fun H' ⟨args, g1, g2, g3, g4, g5⟩ => ?_)
        · refine ⟨rfl, ?_⟩
          refine rd_pick rfl rfl g5 ne (g4.lst hp4 (by simp [hpd])) hpd h0 fun x H6 hx e6 D6 hp6 => ?_
          have hB6 := e6.get g1 (by simp [nB2])
          have x7 : Ext [B2] H6 (upd H6 B2 (.lst (sv args ++ [.str x]))) := Ext.put .refl (by simp) hB6 rfl
          refine ⟨_, hB6, big_sz (by rw [List.length_map]; omega), args ++ [x], by rw [upd_same, sv_snoc], by simp [g2], ?_, (g4.trans e6).mut hB2, D6.get x7 (by simp [nB2.symm]) (by simp [nB2l.symm])⟩
          intro y hy
          rcases List.mem_append.mp hy with m | m
          · exact g3 y m
          · rw [List.mem_singleton.mp m]; exact hx
        · refine ⟨B2, _, rfl, .inl ⟨.inl (.inl g1), fun p5 hp5 => ⟨sz 3 rfl, fun p6 hp6 => ?_⟩⟩⟩
          have x5 : Ext [] H' (upd H' p5 (.tup (sv args))) := .new hp5
          have x6 := x5.add (o := .tup [.str "rel", .str p.1, .ref p5]) hp6
          refine q (rel p.1 args) (.ref p6) _ (E3.trans (e4.trans (g4.trans x6.any))) (g5.get0 x6) ⟨p6, p5, rfl, SqT.of upd_same, (Ext.new (S := []) hp6).tup (SqT.of upd_same)⟩ (fun _ => ⟨p.2.1, p.2.2, pn, pm, g2, g3⟩) rfl rfl
      · refine ⟨sz 2 rfl, fun p5 hp5 => ?_⟩
        have x5 : Ext [] H3 (upd H3 p5 (.lst [.str "eq", .str "less"])) := .new hp5
        have n5 : p5 ≠ dr := by obtain ⟨_, _, k1, _⟩ := D3; exact (ne_of_none k1 hp5).symm
        refine rd_mod 2 (by decide) rfl (D3.get0 x5) ne fun r5 H5 hr5 e5 D5 => ?_
        have h5 := e5.get (upd_same : upd H3 p5 (.lst [.str "eq", .str "less"]) p5 = _) (by simp [n5])
        have hw : ∃ c, ([V.str "eq", .str "less"] : List V)[r5]? = some (.str (wd (cmp c "" ""))) := by
          have : r5 = 0 ∨ r5 = 1 := by omega
          rcases this with h | h
          · exact ⟨false, by rw [h]; rfl⟩
          · exact ⟨true, by rw [h]; rfl⟩
        obtain ⟨c, hc⟩ := hw
        refine ⟨_, _, _, _, rfl, rfl, .inl (.inl h5), atI_nat hc, ?_⟩
        have E5 := E3.trans (x5.any.trans e5)
        refine ⟨_, rfl, ?_⟩
        refine rd_pick rfl rfl D5 ne (E5.lst hp (by simp [hpd])) hpd h0 fun x H6 hx e6 D6 hp6 => ?_
        refine rd_pick rfl rfl D6 ne hp6 hpd h0 fun y H7 hy e7 D7 hp7 => ?_
        refine ⟨sz 3 rfl, fun p8 hp8 => ?_⟩
        have x8 : Ext [] H7 (upd H7 p8 (.tup [.str (wd (cmp c "" "")), .str x, .str y])) := .new hp8
        refine q (cmp c x y) (.ref p8) _ (E5.trans (e6.trans (e7.trans x8.any))) (D7.get0 x8) ⟨p8, rfl, ?_⟩ (fun _ => ⟨hx, hy⟩) rfl rfl
        have hw : wd (cmp c x y) = wd (cmp c "" "") := by cases c <;> rfl
        rw [hw]
        exact SqT.of upd_same
    · refine ⟨sz 2 rfl, fun p5 hp5 => ?_⟩
      have x5 : Ext [] H3 (upd H3 p5 (.lst [.str "eq", .str "less"])) := .new hp5
      have n5 : p5 ≠ dr := by obtain ⟨_, _, k1, _⟩ := D3; exact (ne_of_none k1 hp5).symm
      refine rd_mod 2 (by decide) rfl (D3.get0 x5) ne fun r5 H5 hr5 e5 D5 => ?_
      have h5 := e5.get (upd_same : upd H3 p5 (.lst [.str "eq", .str "less"]) p5 = _) (by simp [n5])
      have hw : ∃ c, ([V.str "eq", .str "less"] : List V)[r5]? = some (.str (wd (cmp c "" ""))) := by
        have : r5 = 0 ∨ r5 = 1 := by omega
        rcases this with h | h
        · exact ⟨false, by rw [h]; rfl⟩
        · exact ⟨true, by rw [h]; rfl⟩
      obtain ⟨c, hc⟩ := hw
      refine ⟨_, _, _, _, rfl, rfl, .inl (.inl h5), atI_nat hc, ?_⟩
      have E5 := E3.trans (x5.any.trans e5)
      refine ⟨_, rfl, ?_⟩
      refine rd_pick rfl rfl D5 ne (E5.lst hp (by simp [hpd])) hpd h0 fun x H6 hx e6 D6 hp6 => ?_
      refine rd_pick rfl rfl D6 ne hp6 hpd h0 fun y H7 hy e7 D7 hp7 => ?_
      refine ⟨sz 3 rfl, fun p8 hp8 => ?_⟩
      have x8 : Ext [] H7 (upd H7 p8 (.tup [.str (wd (cmp c "" "")), .str x, .str y])) := .new hp8
      refine q (cmp c x y) (.ref p8) _ (E5.trans (e6.trans (e7.trans x8.any))) (D7.get0 x8) ⟨p8, rfl, ?_⟩ (fun _ => ⟨hx, hy⟩) rfl rfl
      have hw : wd (cmp c x y) = wd (cmp c "" "") := by cases c <;> rfl
      rw [hw]
      exact SqT.of upd_same
end
end Say
set_option maxRecDepth 100000
set_option maxHeartbeats 4000000
/-! the law: a formula is drawn, deeper -/
namespace Say
open PySem PySem.Spec PyProof.Rows L2 Fm
def kinds : Bool → List Str
  | true => ["some", "all"]
  | false => ["lfp", "pfp", "tc", "guess"]
theorem within_len {ns : Ns} {nm : Str} {k m : Nat} : (within ns nm k m).length ≤ ns.length + 1 := by
  unfold within
  rw [List.length_append]
  have := List.length_filter_le (fun p : Str × Nat × Nat => !decide (p.1 = nm)) ns
  show _ + 1 ≤ _
  omega
section
variable {P : Program} {w : World} {K : PySem.W.Frag} {mg : Str → Option Value} {base : Heap} {f : Addr} {B : Nat}
def spForm (K : PySem.W.Frag) (q : Bool) (n : Nat) : L2.Sp := fun vs H Q _ => ∃ dr l pl, ∃ pool : List Str, ∃ nl, ∃ ns : Ns, ∃ kl, ∃ dz : Int, ∃ deep : Nat, dz = (deep : Nat) ∧ vs = [.ref dr, .int dz, .ref pl, .ref nl, .ref kl] ∧ Dr H dr l ∧ dr ≠ l ∧ SqL K H pl (sv pool) ∧ pl ≠ dr ∧ 2 ≤ pool.length ∧ pool.length ≤ 3 ∧ pool.Nodup ∧ Nl K H nl ns ∧ nl ≠ dr ∧ ns.length + deep ≤ 400 ∧ (∀ p ∈ ns, p.2.1 ≤ 100 ∧ p.2.2 ≤ 3) ∧ SqL K H kl (sv (kinds q)) ∧ kl ≠ dr ∧ (1 ≤ deep ∧ deep ≤ n) ∧
  ∀ f v H', Ext [dr] H H' → Dr H' dr l → Rp K H' f v → Gf q pool f ns → dp f ≤ max 1 deep → Q v H'
def spBound (K : PySem.W.Frag) (q : Bool) (n : Nat) : L2.Sp := fun vs H Q _ => ∃ dr l pl, ∃ pool : List Str, ∃ nl, ∃ ns : Ns, ∃ kl, ∃ dz : Int, ∃ deep : Nat, dz = (deep : Nat) ∧ vs = [.ref dr, .int dz, .ref pl, .ref nl, .ref kl] ∧ Dr H dr l ∧ dr ≠ l ∧ SqL K H pl (sv pool) ∧ pl ≠ dr ∧ 2 ≤ pool.length ∧ pool.length ≤ 3 ∧ pool.Nodup ∧ Nl K H nl ns ∧ nl ≠ dr ∧ ns.length + deep ≤ 400 ∧ (∀ p ∈ ns, p.2.1 ≤ 100 ∧ p.2.2 ≤ 3) ∧ SqL K H kl (sv (kinds q)) ∧ kl ≠ dr ∧ deep ≤ n + 1 ∧ 2 ≤ deep ∧
  ∀ f v H', Ext [dr] H H' → Dr H' dr l → Rp K H' f v → Gf q pool f ns → dp f ≤ max 1 deep → Q v H'
theorem sc_law_bound : FnScope ["_law_draws", "_law_deep", "_law_pool", "_law_names_here", "_law_kinds", "_law_pick", "_law_args", "_law_given", "_law_x", "_law_name", "_law_inner", "_law_arity"] ["_law_draws", "_law_deep", "_law_pool", "_law_names_here", "_law_kinds"] (defScope s_law_bound) := ⟨rfl, rfl, rfl, by decide +kernel, rfl, by decide +kernel, by decide +kernel⟩
theorem hs_bound (T : Tx w K mg) (D : Dn K mg "_law_bound" s_law_bound f) (qq : Bool) (n : Nat) (h_law_draw : Hs P w K mg base CX0 2 "_law_draw" ["_law_draws"] (spDraw K)) (h_law_some_of : Hs P w K mg base CX0 3 "_law_some_of" ["_law_draws", "_law_pool", "_law_many"] (spSome K)) (h_law_within : Hs P w K mg base CX0 1 "_law_within" ["_law_names_here", "_law_name", "_law_arity", "_law_mode"] (spWithin K))
    (h_law_barred : Hs P w K mg base CX0 1 "_law_barred" ["_law_names_here"] (spBarred K)) (h_law_formula : Hs P w K mg base CX0 (4 + 2 * n + 1) "_law_formula" ["_law_draws", "_law_deep", "_law_pool", "_law_names_here", "_law_kinds"] (spForm K qq n)) :
    Hs P w K mg base CX0 (4 + 2 * n + 2) "_law_bound" ["_law_draws", "_law_deep", "_law_pool", "_law_names_here", "_law_kinds"] (spBound K qq n) := by
  refine Hs.of D sc_law_bound (fun vs H Q E h => ?_) (fun _ _ _ _ _ _ us hl => match us, hl with | [_, _, _, _, _], _ => rfl) (fun cdv A outer s H vs Q E hr h => ?_)
  · obtain ⟨dr, l, pl, pool, nl, ns, kl, dz, deep, _, rfl, _⟩ := h
    rfl
  obtain ⟨dr, l, pl, pool, nl, ns, kl, _, deep, rfl, rfl, D, ne, hp, hpd, hl2, hl3, hnd, hnl, hnld, hnz, hns, hk, hkd, hdn, hd2, q⟩ := h
  refine ⟨_, PSs.nox (pss_cons (ps_set (i := 5) sc_law_bound.nd rfl (by first | exact Or.inl rfl | exact Or.inr rfl) (pe_ix ix_list (pv 4) (pe_op op_mod (pe_h h_law_draw (hr.mono (by omega)) rfl pass0 (pa_cons (pv 0) pa_nil)) (pe_callB call_len_seq (by rfl) T.zlen PySem.boot_len (pa_cons (pv 4) pa_nil))) (fun _ _ => rfl)))
      (pss_cons (ps_if (PW.pt (pw_and (pt_cmpR op_eq (pe_callB call_len_seq (by rfl) T.zlen PySem.boot_len (pa_cons (pv 2) pa_nil)) pe_int (nomark _)) (pw_and1 (pt_cmpR op_eq (pv 5) pe_str (nomark _))))) (pss_one (ps_set (i := 5) sc_law_bound.nd rfl (by first | exact Or.inl rfl | exact Or.inr rfl) pe_str)) pss_nil)
      (pss_cons (ps_set (i := 6) sc_law_bound.nd rfl (by first | exact Or.inl rfl | exact Or.inr rfl) (pe_h h_law_some_of (hr.mono (by omega)) rfl pass0 (pa_cons (pv 0) (pa_cons (pv 2) (pa_cons (pe_callB (call_min2 rfl) (by rfl) T.zmin (by decide +kernel) (pa_cons (pe_callB call_len_seq (by rfl) T.zlen PySem.boot_len (pa_cons (pv 2) pa_nil)) (pa_cons (pe_ix ix_list (pe_lst (pa_cons pe_int (pa_cons pe_int (pa_cons pe_int (pa_cons pe_int (pa_cons pe_int (pa_cons pe_int pa_nil))))))) (pe_op op_mod (pe_h h_law_draw (hr.mono (by omega)) rfl pass0 (pa_cons (pv 0) pa_nil)) pe_int) (fun _ _ => rfl)) pa_nil))) pa_nil)))))
      (pss_cons (ps_set (i := 7) sc_law_bound.nd rfl (by first | exact Or.inl rfl | exact Or.inr rfl) (pe_callTy call_tuple_of (by rfl) T.ztuple (by decide +kernel) (pa_cons (pe_lc (own := [("_law_x", 8)]) (g := gName 8) rfl sc_law_bound.nd (pi_list (pv 6)) (blkOk_by (own := [("_law_x", 8)]) (N := ["_law_draws", "_law_deep", "_law_pool", "_law_names_here", "_law_kinds", "_law_pick", "_law_args", "_law_given", "_law_x", "_law_name", "_law_inner", "_law_arity"]) (sc := defScope s_law_bound) (by decide +kernel)) (fun _ _ _ _ _ => pg_name (i := 8) sc_law_bound.nd rfl (Or.inl rfl)) (fun _ _ _ _ _ => pts_nil) (fun _ _ _ _ _ => (pe_ix (ix_listB (K := K) rfl) (pv 2) (pe_op op_mod (pe_h h_law_draw (hr.mono (by omega)) rfl pass0 (pa_cons (pv 0) pa_nil)) (pe_callB (call_len_seqB (K := K) rfl) (by rfl) T.zlen PySem.boot_len (pa_cons (pv 2) pa_nil))) (fun _ _ => rfl)))) pa_nil)))
      (pss_cons (ps_set (i := 9) sc_law_bound.nd rfl (by first | exact Or.inl rfl | exact Or.inr rfl) (pe_ix ix_list (pe_lst (pa_cons pe_str (pa_cons pe_str (pa_cons pe_str pa_nil)))) (pe_op op_mod (pe_h h_law_draw (hr.mono (by omega)) rfl pass0 (pa_cons (pv 0) pa_nil)) pe_int) (fun _ _ => rfl)))
      (pss_cons (ps_if (PW.pt (pw_or (pt_cmpR op_eq (pv 5) pe_str (nomark _)) (pw_or1 (pt_cmpR op_eq (pv 5) pe_str (nomark _))))) (pss_one (ps_ret (pe_tup (pa_cons (pv 5) (pa_cons (pe_callTy call_tuple_of (by rfl) T.ztuple (by decide +kernel) (pa_cons (pv 6) pa_nil)) (pa_cons (pe_h h_law_formula (hr.mono (by omega)) rfl pass0 (pa_cons (pv 0) (pa_cons (pe_op op_sub (pv 1) pe_int) (pa_cons (pv 2) (pa_cons (pv 3) (pa_cons (pv 4) pa_nil)))))) pa_nil)))))) pss_nil)
      (pss_cons (ps_if (pt_cmpR op_eq (pv 5) pe_str (nomark _)) (pss_cons (ps_set (i := 10) sc_law_bound.nd rfl (by first | exact Or.inl rfl | exact Or.inr rfl) (pe_h h_law_within (hr.mono (by omega)) rfl pass0 (pa_cons (pv 3) (pa_cons (pv 9) (pa_cons (pe_callB call_len_seq (by rfl) T.zlen PySem.boot_len (pa_cons (pv 6) pa_nil)) (pa_cons pe_int pa_nil))))))
      (pss_one (ps_ret (pe_tup (pa_cons pe_str (pa_cons (pv 9) (pa_cons (pe_callTy call_tuple_of (by rfl) T.ztuple (by decide +kernel) (pa_cons (pv 6) pa_nil)) (pa_cons (pe_h h_law_formula (hr.mono (by omega)) rfl pass0 (pa_cons (pv 0) (pa_cons (pe_op op_sub (pv 1) pe_int) (pa_cons (pv 2) (pa_cons (pv 10) (pa_cons (pv 4) pa_nil)))))) (pa_cons (pv 7) pa_nil))))))))) pss_nil)
      (pss_cons (ps_if (pt_cmpR op_eq (pv 5) pe_str (nomark _)) (pss_cons (ps_set (i := 10) sc_law_bound.nd rfl (by first | exact Or.inl rfl | exact Or.inr rfl) (pe_h h_law_within (hr.mono (by omega)) rfl pass0 (pa_cons (pe_h h_law_barred (hr.mono (by omega)) rfl pass0 (pa_cons (pv 3) pa_nil)) (pa_cons (pv 9) (pa_cons (pe_callB call_len_seq (by rfl) T.zlen PySem.boot_len (pa_cons (pv 6) pa_nil)) (pa_cons pe_int pa_nil))))))
      (pss_one (ps_ret (pe_tup (pa_cons pe_str (pa_cons (pv 9) (pa_cons (pe_callTy call_tuple_of (by rfl) T.ztuple (by decide +kernel) (pa_cons (pv 6) pa_nil)) (pa_cons (pe_h h_law_formula (hr.mono (by omega)) rfl pass0 (pa_cons (pv 0) (pa_cons (pe_op op_sub (pv 1) pe_int) (pa_cons (pv 2) (pa_cons (pv 10) (pa_cons (pv 4) pa_nil)))))) (pa_cons (pv 7) pa_nil))))))))) pss_nil)
      (pss_cons (ps_if (pt_cmpR op_eq (pv 5) pe_str (nomark _)) (pss_cons (ps_set (i := 6) sc_law_bound.nd rfl (by first | exact Or.inl rfl | exact Or.inr rfl) (pe_h h_law_some_of (hr.mono (by omega)) rfl pass0 (pa_cons (pv 0) (pa_cons (pv 2) (pa_cons pe_int pa_nil)))))
      (pss_cons (ps_set (i := 7) sc_law_bound.nd rfl (by first | exact Or.inl rfl | exact Or.inr rfl) (pe_tup (pa_cons (pe_ix ix_list (pv 2) (pe_op op_mod (pe_h h_law_draw (hr.mono (by omega)) rfl pass0 (pa_cons (pv 0) pa_nil)) (pe_callB call_len_seq (by rfl) T.zlen PySem.boot_len (pa_cons (pv 2) pa_nil))) (fun _ _ => rfl)) (pa_cons (pe_ix ix_list (pv 2) (pe_op op_mod (pe_h h_law_draw (hr.mono (by omega)) rfl pass0 (pa_cons (pv 0) pa_nil)) (pe_callB call_len_seq (by rfl) T.zlen PySem.boot_len (pa_cons (pv 2) pa_nil))) (fun _ _ => rfl)) pa_nil))))
      (pss_one (ps_ret (pe_tup (pa_cons pe_str (pa_cons (pe_callTy call_tuple_of (by rfl) T.ztuple (by decide +kernel) (pa_cons (pv 6) pa_nil)) (pa_cons (pe_h h_law_formula (hr.mono (by omega)) rfl pass0 (pa_cons (pv 0) (pa_cons (pe_op op_sub (pv 1) pe_int) (pa_cons (pv 2) (pa_cons (pv 3) (pa_cons (pv 4) pa_nil)))))) (pa_cons (pv 7) pa_nil))))))))) pss_nil)
      (pss_cons (ps_set (i := 11) sc_law_bound.nd rfl (by first | exact Or.inl rfl | exact Or.inr rfl) (pe_op op_mod (pe_h h_law_draw (hr.mono (by omega)) rfl pass0 (pa_cons (pv 0) pa_nil)) pe_int))
      (pss_cons (ps_set (i := 10) sc_law_bound.nd rfl (by first | exact Or.inl rfl | exact Or.inr rfl) (pe_h h_law_within (hr.mono (by omega)) rfl pass0 (pa_cons (pv 3) (pa_cons (pv 9) (pa_cons (pv 11) (pa_cons pe_int pa_nil))))))
      (pss_one (ps_ret (pe_tup (pa_cons pe_str (pa_cons (pv 9) (pa_cons (pv 11) (pa_cons (pe_h h_law_formula (hr.mono (by omega)) rfl pass0 (pa_cons (pv 0) (pa_cons (pe_op op_sub (pv 1) pe_int) (pa_cons (pv 2) (pa_cons (pv 10) (pa_cons (pv 4) pa_nil)))))) pa_nil)))))))))))))))))), ?_⟩
  obtain ⟨dp0, hdp0⟩ : ∃ k, deep = k + 1 := ⟨deep - 1, by omega⟩
  refine rd_pick rfl rfl D ne hk hkd (by cases qq <;> decide) fun pick H1 hpick e1 D1 hk1 => ?_
  have hp1 := e1.lst hp (by simp [hpd])
  have hpl : (sv pool).length = pool.length := List.length_map _
  refine ⟨_, rfl, _, _, rfl, .inl hp1, rfl, _, rfl, ifF (decide_eq_false fun z => by have z : ((sv pool).length : Int) = 1 := V.int.inj z; omega) (ifF rfl ?_)⟩
  refine ⟨_, rfl, _, rfl, _, rfl, _, _, rfl, .inl hp1, sz 6 rfl, fun p2 hp2 => ?_⟩
  have x2 : Ext [] H1 (upd H1 p2 (.lst [.int 1, .int 1, .int 1, .int 2, .int 2, .int 3])) := .new hp2
  have n2 : p2 ≠ dr := by obtain ⟨_, _, k1, _⟩ := D1; exact (ne_of_none k1 hp2).symm
  refine rd_mod 6 (by decide) rfl (D1.get0 x2) ne fun r3 H3 hr3 e3 D3 => ?_
  have h3 := e3.get (upd_same : upd H1 p2 (.lst [.int 1, .int 1, .int 1, .int 2, .int 2, .int 3]) p2 = _) (by simp [n2])
  have hw : ∃ c : Nat, ([V.int 1, .int 1, .int 1, .int 2, .int 2, .int 3] : List V)[r3]? = some (.int (c : Nat)) ∧ 1 ≤ c ∧ c ≤ 3 := by
    have : r3 = 0 ∨ r3 = 1 ∨ r3 = 2 ∨ r3 = 3 ∨ r3 = 4 ∨ r3 = 5 := by omega
    rcases this with h | h | h | h | h | h <;> rw [h]
    · exact ⟨1, rfl, by omega⟩
    · exact ⟨1, rfl, by omega⟩
    · exact ⟨1, rfl, by omega⟩
    · exact ⟨2, rfl, by omega⟩
    · exact ⟨2, rfl, by omega⟩
    · exact ⟨3, rfl, by omega⟩
  obtain ⟨c, hc, hc1, hc3⟩ := hw
  refine ⟨_, _, _, _, rfl, rfl, .inl (.inl h3), atI_nat hc, ?_⟩
  have E3 := e1.trans ((x2.any (T := [dr])).trans e3)
  refine ⟨_, _, rfl, dr, l, pl, pool, _, min c pool.length, ?_, rfl, D3, ne, E3.lst hp (by simp [hpd]), hnd, by omega, by omega, fun vs' pa H4 e4 D4 ha4 hpa0 hv1 hv2 hv3 => ?_⟩
  · rw [hpl]
    by_cases hlt : ((c : Nat) : Int) < ((pool.length : Nat) : Int)
    · rw [if_pos hlt]; omega
    · rw [if_neg hlt]; omega
  have hvs : VsOk pool vs' := ⟨hv2, by omega, by omega, hv3⟩
  have E4 := E3.trans e4
  have hpad : pa ≠ dr := by obtain ⟨_, _, k1, _⟩ := D3; exact (ne_of_none k1 hpa0).symm
  refine ⟨_, rfl, pa, rfl, ⟨_, .inl (.inl ha4)⟩, fun B2 hB2 => ?_⟩
  have nB2 : B2 ≠ dr := by obtain ⟨_, _, k1, _⟩ := D4; exact (ne_of_none k1 hB2).symm
  have nB2l : B2 ≠ l := by obtain ⟨_, _, _, k1, _⟩ := D4; exact (ne_of_none k1 hB2).symm
  refine lc_list (xs := sv vs') (fun i H' => ∃ args : List Str, H' B2 = some (.lst (sv args)) ∧ args.length = i ∧ (∀ x ∈ args, x ∈ pool) ∧ Ext [dr] H4 H' ∧ Dr H' dr l) ⟨[], upd_same, rfl, by simp, .new hB2, D4.get0 (.new hB2)⟩ (fun i H' _ ⟨_, _, _, _, e, _⟩ => e.lst (.inl (.inl ha4)) (by simp [hpad])) (fun i y H' hy ⟨args, g1, g2, g3, g4, g5⟩ => ?_) (fun H5 ⟨gvs, g1, hgl, hgp, g4, D5⟩ => ?_)
  · have hi : i < vs'.length := by
      rcases Nat.lt_or_ge i vs'.length with a | a
      · exact a
      · rw [List.getElem?_eq_none (by rw [List.length_map]; exact a)] at hy; cases hy
    refine ⟨rfl, ?_⟩
    refine rd_pick rfl rfl g5 ne ((E4.trans g4).lst hp (by simp [hpd])) hpd (by omega) fun x H6 hx e6 D6 hp6 => ?_
    have hB6 := e6.get g1 (by simp [nB2])
    have x7 : Ext [B2] H6 (upd H6 B2 (.lst (sv args ++ [.str x]))) := Ext.put .refl (by simp) hB6 rfl
    refine ⟨_, hB6, big_sz (by rw [List.length_map]; have := hvs.three; omega), args ++ [x], by rw [upd_same, sv_snoc], by simp [g2], ?_, (g4.trans e6).mut hB2, D6.get x7 (by simp [nB2.symm]) (by simp [nB2l.symm])⟩
    intro y hy
    rcases List.mem_append.mp hy with m | m
    · exact g3 y m
    · rw [List.mem_singleton.mp m]; exact hx
  rw [List.length_map] at hgl
  refine ⟨B2, _, rfl, .inl ⟨.inl (.inl g1), fun pg hpg => ?_⟩⟩
  have x5 : Ext [] H5 (upd H5 pg (.tup (sv gvs))) := .new hpg
  refine ⟨sz 3 rfl, fun p6 hp6 => ?_⟩
  have x6 := x5.add (o := .lst [.str "r", .str "s", .str "e"]) hp6
  have n6 : p6 ≠ dr := by obtain ⟨_, _, k1, _⟩ := D5; exact (ne_of_none (x5.get0 k1) hp6).symm
  refine rd_mod 3 (by decide) rfl (D5.get0 x6) ne fun r7 H7 hr7 e7 D7 => ?_
  have h7 := e7.get (upd_same : upd (upd H5 pg (.tup (sv gvs))) p6 (.lst [.str "r", .str "s", .str "e"]) p6 = _) (by simp [n6])
  have hw : ∃ nm, ([V.str "r", .str "s", .str "e"] : List V)[r7]? = some (.str nm) ∧ nm ∈ binders := by
    have : r7 = 0 ∨ r7 = 1 ∨ r7 = 2 := by omega
    rcases this with h | h | h <;> rw [h]
    · exact ⟨"r", rfl, by decide +kernel⟩
    · exact ⟨"s", rfl, by decide +kernel⟩
    · exact ⟨"e", rfl, by decide +kernel⟩
  obtain ⟨nm, hc7, hnm⟩ := hw
  refine ⟨_, _, _, _, rfl, rfl, .inl (.inl h7), atI_nat hc7, ?_⟩
  have X7 : Ext [dr] H4 H7 := g4.trans ((x6.any (T := [dr])).trans e7)
  have E7 := E4.trans X7
  have ha7 := X7.get ha4 (by simp [hpad])
  have hg7 : SqT K H7 pg (sv gvs) := e7.tup ((Ext.new (S := []) hp6).tup (SqT.of upd_same))
  cases qq with
  | true =>
    have hpick : pick ∈ (["some", "all"] : List Str) := hpick
    rcases List.mem_cons.mp hpick with rfl | hpick
    · refine ⟨_, rfl, rfl, _, rfl, ifT (decide_eq_true rfl) (ifT rfl ?_)⟩
      refine ⟨_, rfl, _, rfl, pa, _, rfl, .inl ⟨.inl (.inl ha7), fun p8 hp8 => ?_⟩⟩
      have x8 : Ext [] H7 (upd H7 p8 (.tup (sv vs'))) := .new hp8
      have E8 := E7.trans x8.any
      refine ⟨_, rfl, _, rfl, _, _, rfl, rfl, _, rfl, _, rfl, _, rfl, dr, l, pl, pool, nl, ns, kl, _, dp0, by omega, rfl, D7.get0 x8, ne, E8.lst hp (by simp [hpd]), hpd, hl2, hl3, hnd, hnl.ext E8 (by simp [hnld]), hnld, by omega, hns, E8.lst hk (by simp [hkd]), hkd, by omega, fun g gv H9 e9 D9 hgv hG hdp => ?_⟩
      refine ⟨sz 3 rfl, fun p10 hp10 => ?_⟩
      have x10 : Ext [] H9 (upd H9 p10 (.tup [.str "some", .ref p8, gv])) := .new hp10
      refine q (qu false vs' g) (.ref p10) _ (E8.trans (e9.trans x10.any)) (D9.get0 x10) ⟨p10, p8, gv, rfl, SqT.of upd_same, x10.tup (e9.tup (SqT.of upd_same)), Rp.ext x10 g hgv⟩ ⟨rfl, hvs, hG⟩ ?_
      show dp g + 1 ≤ max 1 deep
      omega
    · have hpick := List.mem_singleton.mp hpick
      subst hpick
      refine ⟨_, rfl, rfl, _, rfl, ifF (decide_eq_false fun z => absurd (V.str.inj z : ("all" : Str) = "some") (by decide +kernel)) ?_⟩
      refine ⟨_, rfl, rfl, _, rfl, ifT (decide_eq_true rfl) ?_⟩
      refine ⟨_, rfl, _, rfl, pa, _, rfl, .inl ⟨.inl (.inl ha7), fun p8 hp8 => ?_⟩⟩
      have x8 : Ext [] H7 (upd H7 p8 (.tup (sv vs'))) := .new hp8
      have E8 := E7.trans x8.any
      refine ⟨_, rfl, _, rfl, _, _, rfl, rfl, _, rfl, _, rfl, _, rfl, dr, l, pl, pool, nl, ns, kl, _, dp0, by omega, rfl, D7.get0 x8, ne, E8.lst hp (by simp [hpd]), hpd, hl2, hl3, hnd, hnl.ext E8 (by simp [hnld]), hnld, by omega, hns, E8.lst hk (by simp [hkd]), hkd, by omega, fun g gv H9 e9 D9 hgv hG hdp => ?_⟩
      refine ⟨sz 3 rfl, fun p10 hp10 => ?_⟩
      have x10 : Ext [] H9 (upd H9 p10 (.tup [.str "all", .ref p8, gv])) := .new hp10
      refine q (qu true vs' g) (.ref p10) _ (E8.trans (e9.trans x10.any)) (D9.get0 x10) ⟨p10, p8, gv, rfl, SqT.of upd_same, x10.tup (e9.tup (SqT.of upd_same)), Rp.ext x10 g hgv⟩ ⟨rfl, hvs, hG⟩ ?_
      show dp g + 1 ≤ max 1 deep
      omega
  | false =>
    have hpick : pick ∈ (["lfp", "pfp", "tc", "guess"] : List Str) := hpick
    rcases List.mem_cons.mp hpick with rfl | hpick
    · refine ⟨_, rfl, rfl, _, rfl, ifF (decide_eq_false fun z => absurd (V.str.inj z : ("lfp" : Str) = "some") (by decide +kernel)) ?_⟩
      refine ⟨_, rfl, rfl, _, rfl, ifF (decide_eq_false fun z => absurd (V.str.inj z : ("lfp" : Str) = "all") (by decide +kernel)) ?_⟩
      refine ⟨_, rfl, rfl, _, rfl, ifT (decide_eq_true rfl) ?_⟩
      refine ⟨_, rfl, _, rfl, _, rfl, pa, _, rfl, .inl (.inl (.inl ha7)), nl, ns, nm, _, 1, rfl, hnl.ext E7 (by simp [hnld]), by omega, fun pw Hw ew hw hw0 => ?_⟩
      have EW := E7.trans (ew.any (T := [dr]))
      have hnw : ∀ p ∈ within ns nm (sv vs').length 1, p.2.1 ≤ 100 ∧ p.2.2 ≤ 3 := fun p hp => by
        rcases mem_within hp with ⟨z, _⟩ | z
        · exact hns p z
        · rw [z]; exact ⟨by show (sv vs').length ≤ 100; rw [List.length_map]; have := hvs.three; omega, Nat.le_of_ble_eq_true rfl⟩
      have hlw : (within ns nm (sv vs').length 1).length ≤ ns.length + 1 := within_len
      have DW := D7.get0 ew
      have haw := ew.get0 ha7
      have hgw := ew.tup hg7
      have hpw : pw ≠ dr := by obtain ⟨_, _, k1, _⟩ := D7; intro e; rw [e] at hw0; rw [hw0] at k1; cases k1
      refine ⟨_, rfl, _, rfl, pa, _, rfl, .inl ⟨.inl (.inl haw), fun p8 hp8 => ?_⟩⟩
      have x8 : Ext [] Hw (upd Hw p8 (.tup (sv vs'))) := .new hp8
      have E8 := EW.trans x8.any
      refine ⟨_, rfl, _, rfl, _, _, rfl, rfl, _, rfl, _, rfl, _, rfl, dr, l, pl, pool, pw, (within ns nm (sv vs').length 1), kl, _, dp0, by omega, rfl, DW.get0 x8, ne, E8.lst hp (by simp [hpd]), hpd, hl2, hl3, hnd, hw.ext x8 (by simp), hpw, by omega, hnw, E8.lst hk (by simp [hkd]), hkd, by omega, fun g gv H9 e9 D9 hgv hG hdp => ?_⟩
      refine ⟨_, rfl, sz 5 rfl, fun p10 hp10 => ?_⟩
      have x10 : Ext [] H9 (upd H9 p10 (.tup [.str "lfp", .str nm, .ref p8, gv, .ref pg])) := .new hp10
      refine q (fx true nm vs' g gvs) (.ref p10) _ (E8.trans (e9.trans x10.any)) (D9.get0 x10) ⟨p10, p8, pg, gv, rfl, SqT.of upd_same, x10.tup (e9.tup (SqT.of upd_same)), x10.tup (e9.tup (x8.tup hgw)), Rp.ext x10 g hgv⟩ ⟨rfl, hnm, hvs, ⟨hgl, hgp⟩, ?_⟩ ?_
      · rw [List.length_map] at hG
        exact hG
      · show dp g + 1 ≤ max 1 deep
        omega
    rcases List.mem_cons.mp hpick with rfl | hpick
    · refine ⟨_, rfl, rfl, _, rfl, ifF (decide_eq_false fun z => absurd (V.str.inj z : ("pfp" : Str) = "some") (by decide +kernel)) ?_⟩
      refine ⟨_, rfl, rfl, _, rfl, ifF (decide_eq_false fun z => absurd (V.str.inj z : ("pfp" : Str) = "all") (by decide +kernel)) ?_⟩
      refine ⟨_, rfl, rfl, _, rfl, ifF (decide_eq_false fun z => absurd (V.str.inj z : ("pfp" : Str) = "lfp") (by decide +kernel)) ?_⟩
      refine ⟨_, rfl, rfl, _, rfl, ifT (decide_eq_true rfl) ?_⟩
      refine ⟨_, rfl, nl, ns, rfl, hnl.ext E7 (by simp [hnld]), by omega, fun p hp => (hns p hp).2, fun pb Hb eb hb hb0 => ?_⟩
      have EB := E7.trans (eb.any (T := [dr]))
      have hbl : (barred ns).length = ns.length := List.length_map _
      refine ⟨_, rfl, _, rfl, pa, _, rfl, .inl (.inl (.inl (eb.get0 ha7))), pb, barred ns, nm, _, 0, rfl, hb, by omega, fun pw Hw ew hw hw0 => ?_⟩
      have EW := EB.trans (ew.any (T := [dr]))
      have hnw : ∀ p ∈ within (barred ns) nm (sv vs').length 0, p.2.1 ≤ 100 ∧ p.2.2 ≤ 3 := fun p hp => by
        rcases mem_within hp with ⟨z, _⟩ | z
        · obtain ⟨y, hy, rfl⟩ := List.mem_map.mp z
          exact ⟨(hns y hy).1, bmode_lt⟩
        · rw [z]; exact ⟨by show (sv vs').length ≤ 100; rw [List.length_map]; have := hvs.three; omega, Nat.le_of_ble_eq_true rfl⟩
      have hlw : (within (barred ns) nm (sv vs').length 0).length ≤ (barred ns).length + 1 := within_len
      have ew := eb.trans ew
      have DW := D7.get0 ew
      have haw := ew.get0 ha7
      have hgw := ew.tup hg7
      have hpw : pw ≠ dr := by obtain ⟨_, _, k1, _⟩ := D7; intro e; rw [e] at hw0; have := eb.get0 k1; rw [hw0] at this; cases this
      refine ⟨_, rfl, _, rfl, pa, _, rfl, .inl ⟨.inl (.inl haw), fun p8 hp8 => ?_⟩⟩
      have x8 : Ext [] Hw (upd Hw p8 (.tup (sv vs'))) := .new hp8
      have E8 := EW.trans x8.any
      refine ⟨_, rfl, _, rfl, _, _, rfl, rfl, _, rfl, _, rfl, _, rfl, dr, l, pl, pool, pw, (within (barred ns) nm (sv vs').length 0), kl, _, dp0, by omega, rfl, DW.get0 x8, ne, E8.lst hp (by simp [hpd]), hpd, hl2, hl3, hnd, hw.ext x8 (by simp), hpw, by omega, hnw, E8.lst hk (by simp [hkd]), hkd, by omega, fun g gv H9 e9 D9 hgv hG hdp => ?_⟩
      refine ⟨_, rfl, sz 5 rfl, fun p10 hp10 => ?_⟩
      have x10 : Ext [] H9 (upd H9 p10 (.tup [.str "pfp", .str nm, .ref p8, gv, .ref pg])) := .new hp10
      refine q (fx false nm vs' g gvs) (.ref p10) _ (E8.trans (e9.trans x10.any)) (D9.get0 x10) ⟨p10, p8, pg, gv, rfl, SqT.of upd_same, x10.tup (e9.tup (SqT.of upd_same)), x10.tup (e9.tup (x8.tup hgw)), Rp.ext x10 g hgv⟩ ⟨rfl, hnm, hvs, ⟨hgl, hgp⟩, ?_⟩ ?_
      · rw [List.length_map] at hG
        exact hG
      · show dp g + 1 ≤ max 1 deep
        omega
    rcases List.mem_cons.mp hpick with rfl | hpick
    · refine ⟨_, rfl, rfl, _, rfl, ifF (decide_eq_false fun z => absurd (V.str.inj z : ("tc" : Str) = "some") (by decide +kernel)) ?_⟩
      refine ⟨_, rfl, rfl, _, rfl, ifF (decide_eq_false fun z => absurd (V.str.inj z : ("tc" : Str) = "all") (by decide +kernel)) ?_⟩
      refine ⟨_, rfl, rfl, _, rfl, ifF (decide_eq_false fun z => absurd (V.str.inj z : ("tc" : Str) = "lfp") (by decide +kernel)) ?_⟩
      refine ⟨_, rfl, rfl, _, rfl, ifF (decide_eq_false fun z => absurd (V.str.inj z : ("tc" : Str) = "pfp") (by decide +kernel)) ?_⟩
      refine ⟨_, rfl, rfl, _, rfl, ifT (decide_eq_true rfl) ?_⟩
      refine ⟨_, rfl, _, rfl, dr, l, pl, pool, _, 2, rfl, rfl, D7, ne, E7.lst hp (by simp [hpd]), hnd, by omega, by omega, fun vs2 pa2 H8 e8 D8 ha8 hpa0 hv1 hv2 hv3 => ?_⟩
      have E8 := E7.trans e8
      have hpa8 : pa2 ≠ dr := by obtain ⟨_, _, k1, _⟩ := D7; exact (ne_of_none k1 hpa0).symm
      refine rd_pick rfl rfl D8 ne (E8.lst hp (by simp [hpd])) hpd (by omega) fun g1 Ha hg1 ea Da hpla => ?_
      refine rd_pick rfl rfl Da ne hpla hpd (by omega) fun g2 Hb hg2 eb Db hplb => ?_
      refine ⟨sz 2 rfl, fun pg2 hpg2 => ?_⟩
      have xg : Ext [] Hb (upd Hb pg2 (.tup [.str g1, .str g2])) := .new hpg2
      have hab := xg.get0 (eb.get (ea.get ha8 (by simp [hpa8])) (by simp [hpa8]))
      have EG := E8.trans (ea.trans (eb.trans (xg.any (T := [dr]))))
      refine ⟨_, rfl, pa2, _, rfl, .inl ⟨.inl (.inl hab), fun p8 hp8 => ?_⟩⟩
      have x8 : Ext [] (upd Hb pg2 (.tup [.str g1, .str g2])) _ := Ext.new (o := .tup (sv vs2)) hp8
      have E9 := EG.trans (x8.any (T := [dr]))
      refine ⟨_, rfl, _, rfl, _, _, rfl, rfl, _, rfl, _, rfl, _, rfl, dr, l, pl, pool, nl, ns, kl, _, dp0, by omega, rfl, (Db.get0 xg).get0 x8, ne, E9.lst hp (by simp [hpd]), hpd, hl2, hl3, hnd, hnl.ext E9 (by simp [hnld]), hnld, by omega, hns, E9.lst hk (by simp [hkd]), hkd, by omega, fun g gv H9 e9 D9 hgv hG hdp => ?_⟩
      refine ⟨_, rfl, sz 4 rfl, fun p10 hp10 => ?_⟩
      have x10 : Ext [] H9 (upd H9 p10 (.tup [.str "tc", .ref p8, gv, .ref pg2])) := .new hp10
      refine q (tc vs2 g [g1, g2]) (.ref p10) _ (E9.trans (e9.trans x10.any)) (D9.get0 x10) ⟨p10, p8, pg2, gv, rfl, SqT.of upd_same, x10.tup (e9.tup (SqT.of upd_same)), x10.tup (e9.tup (x8.tup (SqT.of upd_same))), Rp.ext x10 g hgv⟩ ⟨rfl, ⟨⟨hv2, by omega, by omega, hv3⟩, hv1⟩, ⟨by rw [hv1]; rfl, fun x hx => ?_⟩, hG⟩ ?_
      · rcases List.mem_cons.mp hx with e | hx
        · rw [e]; exact hg1
        · rw [List.mem_singleton.mp hx]; exact hg2
      · show dp g + 1 ≤ max 1 deep
        omega
    have hpick := List.mem_singleton.mp hpick
    subst hpick
    refine ⟨_, rfl, rfl, _, rfl, ifF (decide_eq_false fun z => absurd (V.str.inj z : ("guess" : Str) = "some") (by decide +kernel)) ?_⟩
    refine ⟨_, rfl, rfl, _, rfl, ifF (decide_eq_false fun z => absurd (V.str.inj z : ("guess" : Str) = "all") (by decide +kernel)) ?_⟩
    refine ⟨_, rfl, rfl, _, rfl, ifF (decide_eq_false fun z => absurd (V.str.inj z : ("guess" : Str) = "lfp") (by decide +kernel)) ?_⟩
    refine ⟨_, rfl, rfl, _, rfl, ifF (decide_eq_false fun z => absurd (V.str.inj z : ("guess" : Str) = "pfp") (by decide +kernel)) ?_⟩
    refine ⟨_, rfl, rfl, _, rfl, ifF (decide_eq_false fun z => absurd (V.str.inj z : ("guess" : Str) = "tc") (by decide +kernel)) ?_⟩
    refine rd_mod 2 (by decide) rfl D7 ne fun ar H8 har e8 D8 => ?_
    have E8 := E7.trans e8
    refine ⟨_, rfl, _, rfl, _, rfl, nl, ns, nm, ar, 0, rfl, hnl.ext E8 (by simp [hnld]), by omega, fun pw Hw ew hw hw0 => ?_⟩
    have EW := E8.trans (ew.any (T := [dr]))
    have hnw : ∀ p ∈ within ns nm ar 0, p.2.1 ≤ 100 ∧ p.2.2 ≤ 3 := fun p hp => by
      rcases mem_within hp with ⟨z, _⟩ | z
      · exact hns p z
      · rw [z]; exact ⟨by show ar ≤ 100; omega, Nat.le_of_ble_eq_true rfl⟩
    have hlw : (within ns nm ar 0).length ≤ ns.length + 1 := within_len
    have DW := D8.get0 ew
    have hpw : pw ≠ dr := by obtain ⟨_, _, k1, _⟩ := D8; intro e; rw [e] at hw0; rw [hw0] at k1; cases k1
    refine ⟨_, rfl, _, rfl, ?_⟩
    refine ⟨_, rfl, _, rfl, _, _, rfl, rfl, _, rfl, _, rfl, _, rfl, dr, l, pl, pool, pw, (within ns nm ar 0), kl, _, dp0, by omega, rfl, DW, ne, EW.lst hp (by simp [hpd]), hpd, hl2, hl3, hnd, hw, hpw, by omega, hnw, EW.lst hk (by simp [hkd]), hkd, by omega, fun g gv H9 e9 D9 hgv hG hdp => ?_⟩
    refine ⟨sz 4 rfl, fun p10 hp10 => ?_⟩
    have x10 : Ext [] H9 (upd H9 p10 (.tup [.str "guess", .str nm, .int (ar : Nat), gv])) := .new hp10
    refine q (gs nm ar g) (.ref p10) _ (EW.trans (e9.trans x10.any)) (D9.get0 x10) ⟨p10, gv, rfl, SqT.of upd_same, Rp.ext x10 g hgv⟩ ⟨rfl, hnm, by omega, hG⟩ ?_
    show dp g + 1 ≤ max 1 deep
    omega
end
end Say
set_option maxRecDepth 100000
set_option maxHeartbeats 4000000
/-! the law: formulas drawn -/
namespace Say
open PySem PySem.Spec PyProof.Rows L2 Fm
section
variable {P : Program} {w : World} {K : PySem.W.Frag} {mg : Str → Option Value} {base : Heap} {f : Addr} {B : Nat}
theorem sc_law_formula : FnScope ["_law_draws", "_law_deep", "_law_pool", "_law_names_here", "_law_kinds", "_law_pick", "_law_word", "_law_many", "_law_k"] ["_law_draws", "_law_deep", "_law_pool", "_law_names_here", "_law_kinds"] (defScope s_law_formula) := ⟨rfl, rfl, rfl, by decide +kernel, rfl, by decide +kernel, by decide +kernel⟩
theorem hs_formula (T : Tx w K mg) (D : Dn K mg "_law_formula" s_law_formula f) {fb : Addr} (DB : Dn K mg "_law_bound" s_law_bound fb) (qq : Bool) (h_law_draw : Hs P w K mg base CX0 2 "_law_draw" ["_law_draws"] (spDraw K)) (h_law_some_of : Hs P w K mg base CX0 3 "_law_some_of" ["_law_draws", "_law_pool", "_law_many"] (spSome K)) (h_law_within : Hs P w K mg base CX0 1 "_law_within" ["_law_names_here", "_law_name", "_law_arity", "_law_mode"] (spWithin K))
    (h_law_barred : Hs P w K mg base CX0 1 "_law_barred" ["_law_names_here"] (spBarred K)) (h_law_turned : Hs P w K mg base CX0 1 "_law_turned" ["_law_names_here"] (spTurned K)) (h_law_atom : Hs P w K mg base CX0 3 "_law_atom" ["_law_draws", "_law_pool", "_law_names_here"] (spAtom K)) :
    ∀ n, Hs P w K mg base CX0 (4 + 2 * n + 1) "_law_formula" ["_law_draws", "_law_deep", "_law_pool", "_law_names_here", "_law_kinds"] (spForm K qq n) := by
  intro n
  induction n with
  | zero =>
    refine Hs.of D sc_law_formula (fun vs H Q E h => ?_) (fun _ _ _ _ _ _ us hl => match us, hl with | [_, _, _, _, _], _ => rfl) (fun cdv A outer s H vs Q E hr h => ?_)
    · obtain ⟨dr, l, pl, pool, nl, ns, kl, dz, deep, _, rfl, _⟩ := h
      rfl
    obtain ⟨dr, l, pl, pool, nl, ns, kl, _, deep, rfl, rfl, D, ne, hp, hpd, hl2, hl3, hnd, hnl, hnld, hnz, hns, hk, hkd, hdn, q⟩ := h
    exact absurd hdn (by omega)
  | succ n ih =>
    have h_law_formula := ih
    have h_law_bound := hs_bound T DB qq n h_law_draw h_law_some_of h_law_within h_law_barred ih
    refine Hs.of (k := 4 + 2 * (n + 1)) D sc_law_formula (fun vs H Q E h => ?_) (fun _ _ _ _ _ _ us hl => match us, hl with | [_, _, _, _, _], _ => rfl) (fun cdv A outer s H vs Q E hr h => ?_)
    · obtain ⟨dr, l, pl, pool, nl, ns, kl, dz, deep, _, rfl, _⟩ := h
      rfl
    obtain ⟨dr, l, pl, pool, nl, ns, kl, _, deep, rfl, rfl, D, ne, hp, hpd, hl2, hl3, hnd, hnl, hnld, hnz, hns, hk, hkd, hdn, q⟩ := h
    refine ⟨_, PSs.nox (pss_cons (ps_set (i := 5) sc_law_formula.nd rfl (by first | exact Or.inl rfl | exact Or.inr rfl) (pe_op op_mod (pe_h h_law_draw (hr.mono (by omega)) rfl pass0 (pa_cons (pv 0) pa_nil)) pe_int))
      (pss_cons (ps_if (PW.pt (pw_or (pt_cmpR op_le (pv 1) pe_int (nomark _)) (pw_or1 (pt_cmpR op_eq (pv 5) pe_int (nomark _))))) (pss_one (ps_ret (pe_h h_law_atom (hr.mono (by omega)) rfl pass0 (pa_cons (pv 0) (pa_cons (pv 2) (pa_cons (pv 3) pa_nil)))))) pss_nil)
      (pss_cons (ps_if (pt_cmpR op_eq (pv 5) pe_int (nomark _)) (pss_one (ps_ret (pe_tup (pa_cons pe_str (pa_cons (pe_h h_law_formula (hr.mono (by omega)) rfl pass0 (pa_cons (pv 0) (pa_cons (pe_op op_sub (pv 1) pe_int) (pa_cons (pv 2) (pa_cons (pe_h h_law_turned (hr.mono (by omega)) rfl pass0 (pa_cons (pv 3) pa_nil)) (pa_cons (pv 4) pa_nil)))))) pa_nil))))) pss_nil)
      (pss_cons (ps_if (pt_cmpR op_lt (pv 5) pe_int (nomark _)) (pss_cons (ps_set (i := 6) sc_law_formula.nd rfl (by first | exact Or.inl rfl | exact Or.inr rfl) (pe_ix ix_list (pe_lst (pa_cons pe_str (pa_cons pe_str pa_nil))) (pe_op op_mod (pe_h h_law_draw (hr.mono (by omega)) rfl pass0 (pa_cons (pv 0) pa_nil)) pe_int) (fun _ _ => rfl)))
      (pss_cons (ps_set (i := 7) sc_law_formula.nd rfl (by first | exact Or.inl rfl | exact Or.inr rfl) (pe_ix ix_list (pe_lst (pa_cons pe_int (pa_cons pe_int (pa_cons pe_int (pa_cons pe_int (pa_cons pe_int (pa_cons pe_int pa_nil))))))) (pe_op op_mod (pe_h h_law_draw (hr.mono (by omega)) rfl pass0 (pa_cons (pv 0) pa_nil)) pe_int) (fun _ _ => rfl)))
      (pss_one (ps_ret (pe_tup (pa_cons (pv 6) (pa_cons (pe_callTy call_tuple_of (by rfl) T.ztuple (by decide +kernel) (pa_cons (pe_lc (own := [("_law_k", 8)]) (g := gName 8) rfl sc_law_formula.nd (pi_range1 rfl T.zrange (pa_cons (pv 7) pa_nil)) (blkOk_by (own := [("_law_k", 8)]) (N := ["_law_draws", "_law_deep", "_law_pool", "_law_names_here", "_law_kinds", "_law_pick", "_law_word", "_law_many", "_law_k"]) (sc := defScope s_law_formula) (by decide +kernel)) (fun _ _ _ _ _ => pg_name (i := 8) sc_law_formula.nd rfl (Or.inl rfl)) (fun _ _ _ _ _ => pts_nil) (fun _ _ _ _ _ => (pe_h h_law_formula (hr.mono (by omega)) rfl pass0 (pa_cons (pv 0) (pa_cons (pe_op op_sub (pv 1) pe_int) (pa_cons (pv 2) (pa_cons (pv 3) (pa_cons (pv 4) pa_nil)))))))) pa_nil)) pa_nil))))))) pss_nil)
      (pss_one (ps_ret (pe_h h_law_bound (hr.mono (by omega)) rfl pass0 (pa_cons (pv 0) (pa_cons (pv 1) (pa_cons (pv 2) (pa_cons (pv 3) (pa_cons (pv 4) pa_nil)))))))))))), ?_⟩
    obtain ⟨dp0, hdp0⟩ : ∃ k, deep = k + 1 := ⟨deep - 1, by omega⟩
    refine rd_mod 6 (by decide) rfl D ne fun r1 H1 hr1 e1 D1 => ?_
    have hp1 := e1.lst hp (by simp [hpd])
    refine ⟨_, rfl, _, _, rfl, rfl, _, rfl, ifB (fun hb => ifT rfl ?_) (fun hb => ?_)⟩
    · refine ⟨_, rfl, _, rfl, _, rfl, dr, l, pl, pool, nl, ns, rfl, D1, ne, hp1, hpd, by omega, hnl.ext e1 (by simp [hnld]), hnld, by omega, fun p hp => (hns p hp).1, fun g gv H9 e9 D9 hgv hG hd _ => ?_⟩
      exact q g gv H9 (e1.trans e9) D9 hgv (hG qq) (by omega)
    have hb : ¬ ((deep : Nat) : Int) ≤ 1 := of_decide_eq_false hb
    refine ⟨_, rfl, rfl, _, rfl, ifB (fun hb0 => ?_) (fun hb0 => ?_)⟩
    · refine ⟨_, rfl, _, rfl, _, rfl, dr, l, pl, pool, nl, ns, rfl, D1, ne, hp1, hpd, by omega, hnl.ext e1 (by simp [hnld]), hnld, by omega, fun p hp => (hns p hp).1, fun g gv H9 e9 D9 hgv hG hd _ => ?_⟩
      exact q g gv H9 (e1.trans e9) D9 hgv (hG qq) (by omega)
    refine ⟨_, rfl, rfl, _, rfl, ifB (fun hb1 => ?_) (fun hb1 => ?_)⟩
    · have hnl1 := hnl.ext e1 (by simp [hnld])
      refine ⟨_, rfl, _, rfl, _, _, rfl, rfl, _, rfl, _, rfl, nl, ns, rfl, hnl1, by omega, fun p hp => (hns p hp).2, fun pt Ht et ht ht0 => ?_⟩
      have ET := e1.trans (et.any (T := [dr]))
      have hpt : pt ≠ dr := by obtain ⟨_, _, k1, _⟩ := D1; intro e; rw [e] at ht0; rw [ht0] at k1; cases k1
      have htl : (turned ns).length = ns.length := List.length_map _
      refine ⟨_, rfl, dr, l, pl, pool, pt, turned ns, kl, _, dp0, by omega, rfl, D1.get0 et, ne, ET.lst hp (by simp [hpd]), hpd, hl2, hl3, hnd, ht, hpt, by omega, fun p hp => ?_, ET.lst hk (by simp [hkd]), hkd, by omega, fun g gv H9 e9 D9 hgv hG hdp => ?_⟩
      · obtain ⟨y, hy, rfl⟩ := List.mem_map.mp hp
        exact ⟨(hns y hy).1, tmode_lt⟩
      · refine ⟨sz 2 rfl, fun p10 hp10 => ?_⟩
        have x10 : Ext [] H9 (upd H9 p10 (.tup [.str "not", gv])) := .new hp10
        refine q (neg g) (.ref p10) _ (ET.trans (e9.trans x10.any)) (D9.get0 x10) ⟨p10, gv, rfl, SqT.of upd_same, Rp.ext x10 g hgv⟩ hG ?_
        show dp g + 1 ≤ max 1 deep
        omega
    refine ⟨_, rfl, _, _, rfl, rfl, _, rfl, ifB (fun hb4 => ?_) (fun hb4 => ?_)⟩
    · refine ⟨sz 2 rfl, fun p5 hp5 => ?_⟩
      have x5 : Ext [] H1 (upd H1 p5 (.lst [.str "and", .str "or"])) := .new hp5
      have n5 : p5 ≠ dr := by obtain ⟨_, _, k1, _⟩ := D1; exact (ne_of_none k1 hp5).symm
      refine rd_mod 2 (by decide) rfl (D1.get0 x5) ne fun r5 H5 hr5 e5 D5 => ?_
      have h5 := e5.get (upd_same : upd H1 p5 (.lst [.str "and", .str "or"]) p5 = _) (by simp [n5])
      have hw : ∃ c, ([V.str "and", .str "or"] : List V)[r5]? = some (.str (wd (jn c []))) := by
        have : r5 = 0 ∨ r5 = 1 := by omega
        rcases this with h | h <;> rw [h]
        · exact ⟨true, rfl⟩
        · exact ⟨false, rfl⟩
      obtain ⟨c, hc⟩ := hw
      refine ⟨_, _, _, _, rfl, rfl, .inl (.inl h5), atI_nat hc, ?_⟩
      refine ⟨sz 6 rfl, fun p6 hp6 => ?_⟩
      have x6 : Ext [] H5 (upd H5 p6 (.lst [.int 0, .int 1, .int 2, .int 2, .int 2, .int 3])) := .new hp6
      have n6 : p6 ≠ dr := by obtain ⟨_, _, k1, _⟩ := D5; exact (ne_of_none k1 hp6).symm
      refine rd_mod 6 (by decide) rfl (D5.get0 x6) ne fun r7 H7 hr7 e7 D7 => ?_
      have h7 := e7.get (upd_same : upd H5 p6 (.lst [.int 0, .int 1, .int 2, .int 2, .int 2, .int 3]) p6 = _) (by simp [n6])
      have hw : ∃ m : Nat, ([V.int 0, .int 1, .int 2, .int 2, .int 2, .int 3] : List V)[r7]? = some (.int (m : Nat)) ∧ m ≤ 3 := by
        have : r7 = 0 ∨ r7 = 1 ∨ r7 = 2 ∨ r7 = 3 ∨ r7 = 4 ∨ r7 = 5 := by omega
        rcases this with h | h | h | h | h | h <;> rw [h]
        · exact ⟨0, rfl, by omega⟩
        · exact ⟨1, rfl, by omega⟩
        · exact ⟨2, rfl, by omega⟩
        · exact ⟨2, rfl, by omega⟩
        · exact ⟨2, rfl, by omega⟩
        · exact ⟨3, rfl, by omega⟩
      obtain ⟨m, hm, hm3⟩ := hw
      refine ⟨_, _, _, _, rfl, rfl, .inl (.inl h7), atI_nat hm, ?_⟩
      have E7 : Ext [dr] H H7 := e1.trans ((x5.any (T := [dr])).trans (e5.trans ((x6.any (T := [dr])).trans e7)))
      refine ⟨_, rfl, _, rfl, (m : Nat), rfl, by omega, by omega, fun B2 hB2 => ?_⟩
      have nB2 : B2 ≠ dr := by obtain ⟨_, _, k1, _⟩ := D7; exact (ne_of_none k1 hB2).symm
      have nB2l : B2 ≠ l := by obtain ⟨_, _, _, k1, _⟩ := D7; exact (ne_of_none k1 hB2).symm
      refine lc_range (n := m) (fun i H' => ∃ fs : List Fm, ∃ zs, H' B2 = some (.lst zs) ∧ Rps K H' fs zs ∧ fs.length = i ∧ (∀ g ∈ fs, Gf qq pool g ns ∧ dp g ≤ dp0) ∧ Ext [dr] H7 H' ∧ Dr H' dr l) ⟨[], [], upd_same, rfl, rfl, by simp, .new hB2, D7.get0 (.new hB2)⟩ (fun i H' hi ⟨fs, zs, g1, g2, g3, g4, g5, g6⟩ => ?_) (fun H8 ⟨fs, zs, g1, g2, g3, g4, g5, g6⟩ => ?_)
      · have E8 := E7.trans g5
        refine ⟨rfl, ?_⟩
        refine ⟨_, rfl, _, rfl, _, _, rfl, rfl, _, rfl, _, rfl, _, rfl, dr, l, pl, pool, nl, ns, kl, _, dp0, by omega, rfl, g6, ne, E8.lst hp (by simp [hpd]), hpd, hl2, hl3, hnd, hnl.ext E8 (by simp [hnld]), hnld, by omega, hns, E8.lst hk (by simp [hkd]), hkd, by omega, fun g gv H9 e9 D9 hgv hG hdp => ?_⟩
        have hB9 := e9.get g1 (by simp [nB2])
        have x9 : Ext [B2] H9 (upd H9 B2 (.lst (zs ++ [gv]))) := Ext.put .refl (by simp) hB9 rfl
        refine ⟨_, hB9, big_sz (by rw [Rps.length g2]; omega), fs ++ [g], zs ++ [gv], upd_same, Rps.ext x9 ((Rps.ext e9 g2).snoc hgv), by simp [g3], ?_, (g5.trans e9).mut hB2, D9.get x9 (by simp [nB2.symm]) (by simp [nB2l.symm])⟩
        intro y hy
        rcases List.mem_append.mp hy with z | z
        · exact g4 y z
        · rw [List.mem_singleton.mp z]
          exact ⟨hG, by omega⟩
      · refine ⟨B2, _, rfl, .inl ⟨.inl (.inl g1), fun p9 hp9 => ⟨sz 2 rfl, fun p10 hp10 => ?_⟩⟩⟩
        have x9 : Ext [] H8 (upd H8 p9 (.tup zs)) := .new hp9
        have x10 := x9.add (o := .tup [.str (wd (jn c [])), .ref p9]) hp10
        have hw : wd (jn c fs) = wd (jn c []) := by cases c <;> rfl
        refine q (jn c fs) (.ref p10) _ (E7.trans (g5.trans x10.any)) (g6.get0 x10) ⟨p10, p9, zs, rfl, by rw [hw]; exact SqT.of upd_same, (Ext.new (S := []) hp10).tup (SqT.of upd_same), Rps.ext x10 g2⟩ ⟨by omega, gfs_all.mpr fun g hg => (g4 g hg).1⟩ ?_
        have := dps_le (n := dp0) fun g hg => (g4 g hg).2
        show dps fs + 1 ≤ max 1 deep
        omega
    · refine ⟨_, rfl, _, rfl, _, rfl, _, rfl, _, rfl, dr, l, pl, pool, nl, ns, kl, _, deep, rfl, rfl, D1, ne, hp1, hpd, hl2, hl3, hnd, hnl.ext e1 (by simp [hnld]), hnld, by omega, hns, e1.lst hk (by simp [hkd]), hkd, by omega, by omega, fun g gv H9 e9 D9 hgv hG hdp => ?_⟩
      exact q g gv H9 (e1.trans e9) D9 hgv hG hdp
end
end Say
set_option maxRecDepth 100000
set_option maxHeartbeats 4000000
/-! the law: what a formula is made of -/
namespace Say
open PySem PySem.Spec PyProof.Rows L2 Fm
def tStrs : List Str → TA
  | [] => tNil
  | x :: xs => tCons (tC (.str x)) (tStrs xs)
theorem rd_strs {σ : L2.St} {H : Hp} : ∀ (ws : List Str) {R : List V → Hp → Prop}, R (sv ws) H → tStrs ws σ H R
  | [], R, h => h
  | x :: xs, R, h => rd_strs xs (R := fun vs H' => R (.str x :: vs) H') h
section
variable {K : PySem.W.Frag} {σ : L2.St} {H : Hp} {Q : Bool → Hp → Prop} {a : Addr} {f : Fm} {xs : List V}
theorem rd_eqw (hi : σ[0]? = some (some (.ref a))) (ha : SqT K H a (.str (wd f) :: xs)) (x : Str) (c : Nat) (h : ∀ i, i < 12 → decide (wds i = x) = (i == c)) (q : Q (wk f == c) H) :
    tTest (tOp rEq (tOp (rIxT K) (tVar 0) (tC (.int 0))) (tC (.str x))) σ H Q := by
  refine ⟨_, hi, _, _, _, _, rfl, rfl, ha, at_zero, rfl, _, rfl, ?_⟩
  rw [wd_eq x c h]
  exact q
theorem rd_inw (hi : σ[0]? = some (some (.ref a))) (ha : SqT K H a (.str (wd f) :: xs)) (ws : List Str) (cs : List Nat) (h : ∀ i, i < 12 → ws.contains (wds i) = cs.contains i) (hz : ws.length ≤ 1000) (q : ∀ H', Ext [] H H' → Q (cs.contains (wk f)) H') :
    tTest (tOp (rIn K false) (tOp (rIxT K) (tVar 0) (tC (.int 0))) (tLst (tStrs ws))) σ H Q := by
  refine ⟨_, hi, _, _, _, _, rfl, rfl, ha, at_zero, rd_strs ws ⟨by rw [List.length_map]; exact small_sz hz, fun p hp => ⟨_, sv ws, rfl, .inl (.inl (.inl upd_same)), rfl, flat_sv ws, _, rfl, ?_⟩⟩⟩
  show Q (inV (.str (wd f)) (sv ws)) _
  rw [wd_in ws cs h]
  exact q _ (.new hp)
theorem rd_notinw (hi : σ[0]? = some (some (.ref a))) (ha : SqT K H a (.str (wd f) :: xs)) (ws : List Str) (cs : List Nat) (h : ∀ i, i < 12 → ws.contains (wds i) = cs.contains i) (hz : ws.length ≤ 1000) (q : ∀ H', Ext [] H H' → Q (!cs.contains (wk f)) H') :
    tTest (tOp (rIn K true) (tOp (rIxT K) (tVar 0) (tC (.int 0))) (tLst (tStrs ws))) σ H Q := by
  refine ⟨_, hi, _, _, _, _, rfl, rfl, ha, at_zero, rd_strs ws ⟨by rw [List.length_map]; exact small_sz hz, fun p hp => ⟨_, sv ws, rfl, .inl (.inl (.inl upd_same)), rfl, flat_sv ws, _, rfl, ?_⟩⟩⟩
  show Q (!inV (.str (wd f)) (sv ws)) _
  rw [wd_in ws cs h]
  exact q _ (.new hp)
end
section
variable {P : Program} {w : World} {K : PySem.W.Frag} {mg : Str → Option Value} {base : Heap} {f : Addr} {B : Nat}
def spTx (K : PySem.W.Frag) (xs : List V) (H : Hp) (Q : VK) : Prop := ∀ p H', Ext [] H H' → SqT K H' p xs → Q (.ref p) H'
def spParts (K : PySem.W.Frag) : L2.Sp := fun vs H Q _ => ∃ f v, vs = [v] ∧ Rp K H f v ∧ ∀ p us H', Ext [] H H' → H' p = some (.lst us) → Rps K H' (kids f) us → H p = none → Q (.ref p) H'
theorem sc_law_parts : FnScope ["_law_f"] ["_law_f"] (defScope s_law_parts) := ⟨rfl, rfl, rfl, by decide +kernel, rfl, by decide +kernel, by decide +kernel⟩
theorem hs_parts (T : Tx w K mg) (D : Dn K mg "_law_parts" s_law_parts f) : Hs P w K mg base CX0 1 "_law_parts" ["_law_f"] (spParts K) := by
  refine Hs.of D sc_law_parts (fun vs H Q E h => ?_) (fun _ _ _ _ _ _ us hl => match us, hl with | [_], _ => rfl) (fun cdv A outer s H vs Q E hr h => ?_)
  · obtain ⟨f, v, rfl, _⟩ := h
    rfl
  obtain ⟨f, v, rfl, hf, q⟩ := h
  refine ⟨_, PSs.nox (pss_cons (ps_if (pt_cmpR op_eq (pe_ix ix_tup (pv 0) pe_int (fun _ _ => rfl)) pe_str (nomark _)) (pss_one (ps_ret (pe_lst (pa_cons (pe_ix ix_tup (pv 0) pe_int (fun _ _ => rfl)) pa_nil)))) pss_nil)
      (pss_cons (ps_if (PW.pt (pw_or (pt_cmpR op_eq (pe_ix ix_tup (pv 0) pe_int (fun _ _ => rfl)) pe_str (nomark _)) (pw_or1 (pt_cmpR op_eq (pe_ix ix_tup (pv 0) pe_int (fun _ _ => rfl)) pe_str (nomark _))))) (pss_one (ps_ret (pe_callTy call_list_of (by rfl) T.zlist (by decide +kernel) (pa_cons (pe_ix ix_tup (pv 0) pe_int (fun _ _ => rfl)) pa_nil)))) pss_nil)
      (pss_cons (ps_if (pt_cmpR op_in_seq (pe_ix ix_tup (pv 0) pe_int (fun _ _ => rfl)) (pe_lst (pa_cons pe_str (pa_cons pe_str (pa_cons pe_str pa_nil)))) rfl) (pss_one (ps_ret (pe_lst (pa_cons (pe_ix ix_tup (pv 0) pe_int (fun _ _ => rfl)) pa_nil)))) pss_nil)
      (pss_cons (ps_if (pt_cmpR op_in_seq (pe_ix ix_tup (pv 0) pe_int (fun _ _ => rfl)) (pe_lst (pa_cons pe_str (pa_cons pe_str (pa_cons pe_str pa_nil)))) rfl) (pss_one (ps_ret (pe_lst (pa_cons (pe_ix ix_tup (pv 0) pe_int (fun _ _ => rfl)) pa_nil)))) pss_nil)
      (pss_one (ps_ret (pe_lst pa_nil))))))), ?_⟩
  have hf0 := hf
  obtain ⟨a, xs, rfl, hat⟩ := Rp.at f hf
  cases f with
  | rel nm args =>
    obtain ⟨a', b', e', k1, k2⟩ := hf0
    cases e'
    refine rd_eqw rfl hat "not" 3 (by decide +kernel) ?_
    refine ifF rfl ?_
    refine rd_eqw rfl hat "and" 4 (by decide +kernel) ?_
    refine ifF rfl ?_
    refine rd_eqw rfl hat "or" 5 (by decide +kernel) ?_
    refine ifF rfl ?_
    refine rd_inw rfl (hat) ["some", "all", "tc"] [6, 7, 10] (by decide +kernel) (by decide) fun H1 e1 => ?_
    refine ifF rfl ?_
    refine rd_inw rfl (e1.tup hat) ["lfp", "pfp", "guess"] [8, 9, 11] (by decide +kernel) (by decide) fun H2 e2 => ?_
    have e2 := e1.trans e2
    refine ifF rfl ?_
    refine ⟨sz 0 rfl, fun p hp => q p [] _ (e2.add hp) upd_same rfl (e2.free p hp)⟩
  | cmp c x y =>
    obtain ⟨a', e', k1⟩ := hf0
    cases e'
    cases c with
    | false =>
      refine rd_eqw rfl hat "not" 3 (by decide +kernel) ?_
      refine ifF rfl ?_
      refine rd_eqw rfl hat "and" 4 (by decide +kernel) ?_
      refine ifF rfl ?_
      refine rd_eqw rfl hat "or" 5 (by decide +kernel) ?_
      refine ifF rfl ?_
      refine rd_inw rfl (hat) ["some", "all", "tc"] [6, 7, 10] (by decide +kernel) (by decide) fun H1 e1 => ?_
      refine ifF rfl ?_
      refine rd_inw rfl (e1.tup hat) ["lfp", "pfp", "guess"] [8, 9, 11] (by decide +kernel) (by decide) fun H2 e2 => ?_
      have e2 := e1.trans e2
      refine ifF rfl ?_
      refine ⟨sz 0 rfl, fun p hp => q p [] _ (e2.add hp) upd_same rfl (e2.free p hp)⟩
    | true =>
      refine rd_eqw rfl hat "not" 3 (by decide +kernel) ?_
      refine ifF rfl ?_
      refine rd_eqw rfl hat "and" 4 (by decide +kernel) ?_
      refine ifF rfl ?_
      refine rd_eqw rfl hat "or" 5 (by decide +kernel) ?_
      refine ifF rfl ?_
      refine rd_inw rfl (hat) ["some", "all", "tc"] [6, 7, 10] (by decide +kernel) (by decide) fun H1 e1 => ?_
      refine ifF rfl ?_
      refine rd_inw rfl (e1.tup hat) ["lfp", "pfp", "guess"] [8, 9, 11] (by decide +kernel) (by decide) fun H2 e2 => ?_
      have e2 := e1.trans e2
      refine ifF rfl ?_
      refine ⟨sz 0 rfl, fun p hp => q p [] _ (e2.add hp) upd_same rfl (e2.free p hp)⟩
  | neg g =>
    obtain ⟨a', u, e', k1, k2⟩ := hf0
    cases e'
    refine rd_eqw rfl hat "not" 3 (by decide +kernel) ?_
    refine ifT rfl ?_
    refine ⟨_, rfl, _, _, _, _, rfl, rfl, k1, rfl, sz 1 rfl, fun p hp => ?_⟩
    have x : Ext [] H (upd H p (.lst [u])) := .new hp
    exact q p [u] _ x upd_same (Rps.one (Rp.ext x _ k2)) (hp)
  | jn c fs =>
    obtain ⟨a', b', us, e', k1, k2, k3⟩ := hf0
    cases e'
    cases c with
    | false =>
      refine rd_eqw rfl hat "not" 3 (by decide +kernel) ?_
      refine ifF rfl ?_
      refine rd_eqw rfl hat "and" 4 (by decide +kernel) ?_
      refine ifF rfl ?_
      refine rd_eqw rfl hat "or" 5 (by decide +kernel) ?_
      refine ifT rfl ?_
      refine ⟨_, rfl, _, _, _, _, rfl, rfl, k1, rfl, _, _, rfl, .inr k2, fun p hp => ?_⟩
      have x : Ext [] H (upd H p (.lst us)) := .new hp
      exact q p us _ x upd_same (Rps.ext x k3) hp
    | true =>
      refine rd_eqw rfl hat "not" 3 (by decide +kernel) ?_
      refine ifF rfl ?_
      refine rd_eqw rfl hat "and" 4 (by decide +kernel) ?_
      refine ifT rfl (ifT rfl ?_)
      refine ⟨_, rfl, _, _, _, _, rfl, rfl, k1, rfl, _, _, rfl, .inr k2, fun p hp => ?_⟩
      have x : Ext [] H (upd H p (.lst us)) := .new hp
      exact q p us _ x upd_same (Rps.ext x k3) hp
  | qu c vs g =>
    obtain ⟨a', b', u, e', k1, k2, k3⟩ := hf0
    cases e'
    cases c with
    | false =>
      refine rd_eqw rfl hat "not" 3 (by decide +kernel) ?_
      refine ifF rfl ?_
      refine rd_eqw rfl hat "and" 4 (by decide +kernel) ?_
      refine ifF rfl ?_
      refine rd_eqw rfl hat "or" 5 (by decide +kernel) ?_
      refine ifF rfl ?_
      refine rd_inw rfl (hat) ["some", "all", "tc"] [6, 7, 10] (by decide +kernel) (by decide) fun H1 e1 => ?_
      refine ifT rfl ?_
      refine ⟨_, rfl, _, _, _, _, rfl, rfl, e1.tup k1, rfl, sz 1 rfl, fun p hp => ?_⟩
      have x : Ext [] H (upd H1 p (.lst [u])) := e1.add hp
      exact q p [u] _ x upd_same (Rps.one (Rp.ext x _ k3)) (e1.free p hp)
    | true =>
      refine rd_eqw rfl hat "not" 3 (by decide +kernel) ?_
      refine ifF rfl ?_
      refine rd_eqw rfl hat "and" 4 (by decide +kernel) ?_
      refine ifF rfl ?_
      refine rd_eqw rfl hat "or" 5 (by decide +kernel) ?_
      refine ifF rfl ?_
      refine rd_inw rfl (hat) ["some", "all", "tc"] [6, 7, 10] (by decide +kernel) (by decide) fun H1 e1 => ?_
      refine ifT rfl ?_
      refine ⟨_, rfl, _, _, _, _, rfl, rfl, e1.tup k1, rfl, sz 1 rfl, fun p hp => ?_⟩
      have x : Ext [] H (upd H1 p (.lst [u])) := e1.add hp
      exact q p [u] _ x upd_same (Rps.one (Rp.ext x _ k3)) (e1.free p hp)
  | fx c nm vs g args =>
    obtain ⟨a', b', c', u, e', k1, k2, k3, k4⟩ := hf0
    cases e'
    cases c with
    | false =>
      refine rd_eqw rfl hat "not" 3 (by decide +kernel) ?_
      refine ifF rfl ?_
      refine rd_eqw rfl hat "and" 4 (by decide +kernel) ?_
      refine ifF rfl ?_
      refine rd_eqw rfl hat "or" 5 (by decide +kernel) ?_
      refine ifF rfl ?_
      refine rd_inw rfl (hat) ["some", "all", "tc"] [6, 7, 10] (by decide +kernel) (by decide) fun H1 e1 => ?_
      refine ifF rfl ?_
      refine rd_inw rfl (e1.tup hat) ["lfp", "pfp", "guess"] [8, 9, 11] (by decide +kernel) (by decide) fun H2 e2 => ?_
      have e2 := e1.trans e2
      refine ifT rfl ?_
      refine ⟨_, rfl, _, _, _, _, rfl, rfl, e2.tup k1, rfl, sz 1 rfl, fun p hp => ?_⟩
      have x : Ext [] H (upd H2 p (.lst [u])) := e2.add hp
      exact q p [u] _ x upd_same (Rps.one (Rp.ext x _ k4)) (e2.free p hp)
    | true =>
      refine rd_eqw rfl hat "not" 3 (by decide +kernel) ?_
      refine ifF rfl ?_
      refine rd_eqw rfl hat "and" 4 (by decide +kernel) ?_
      refine ifF rfl ?_
      refine rd_eqw rfl hat "or" 5 (by decide +kernel) ?_
      refine ifF rfl ?_
      refine rd_inw rfl (hat) ["some", "all", "tc"] [6, 7, 10] (by decide +kernel) (by decide) fun H1 e1 => ?_
      refine ifF rfl ?_
      refine rd_inw rfl (e1.tup hat) ["lfp", "pfp", "guess"] [8, 9, 11] (by decide +kernel) (by decide) fun H2 e2 => ?_
      have e2 := e1.trans e2
      refine ifT rfl ?_
      refine ⟨_, rfl, _, _, _, _, rfl, rfl, e2.tup k1, rfl, sz 1 rfl, fun p hp => ?_⟩
      have x : Ext [] H (upd H2 p (.lst [u])) := e2.add hp
      exact q p [u] _ x upd_same (Rps.one (Rp.ext x _ k4)) (e2.free p hp)
  | tc vs g args =>
    obtain ⟨a', b', c', u, e', k1, k2, k3, k4⟩ := hf0
    cases e'
    refine rd_eqw rfl hat "not" 3 (by decide +kernel) ?_
    refine ifF rfl ?_
    refine rd_eqw rfl hat "and" 4 (by decide +kernel) ?_
    refine ifF rfl ?_
    refine rd_eqw rfl hat "or" 5 (by decide +kernel) ?_
    refine ifF rfl ?_
    refine rd_inw rfl (hat) ["some", "all", "tc"] [6, 7, 10] (by decide +kernel) (by decide) fun H1 e1 => ?_
    refine ifT rfl ?_
    refine ⟨_, rfl, _, _, _, _, rfl, rfl, e1.tup k1, rfl, sz 1 rfl, fun p hp => ?_⟩
    have x : Ext [] H (upd H1 p (.lst [u])) := e1.add hp
    exact q p [u] _ x upd_same (Rps.one (Rp.ext x _ k4)) (e1.free p hp)
  | gs nm ar g =>
    obtain ⟨a', u, e', k1, k2⟩ := hf0
    cases e'
    refine rd_eqw rfl hat "not" 3 (by decide +kernel) ?_
    refine ifF rfl ?_
    refine rd_eqw rfl hat "and" 4 (by decide +kernel) ?_
    refine ifF rfl ?_
    refine rd_eqw rfl hat "or" 5 (by decide +kernel) ?_
    refine ifF rfl ?_
    refine rd_inw rfl (hat) ["some", "all", "tc"] [6, 7, 10] (by decide +kernel) (by decide) fun H1 e1 => ?_
    refine ifF rfl ?_
    refine rd_inw rfl (e1.tup hat) ["lfp", "pfp", "guess"] [8, 9, 11] (by decide +kernel) (by decide) fun H2 e2 => ?_
    have e2 := e1.trans e2
    refine ifT rfl ?_
    refine ⟨_, rfl, _, _, _, _, rfl, rfl, e2.tup k1, rfl, sz 1 rfl, fun p hp => ?_⟩
    have x : Ext [] H (upd H2 p (.lst [u])) := e2.add hp
    exact q p [u] _ x upd_same (Rps.one (Rp.ext x _ k2)) (e2.free p hp)
def spBH (K : PySem.W.Frag) : L2.Sp := fun vs H Q _ => ∃ f v, vs = [v] ∧ Rp K H f v ∧ spTx K (sv (ownV f)) H Q
theorem sc_law_bound_here : FnScope ["_law_f"] ["_law_f"] (defScope s_law_bound_here) := ⟨rfl, rfl, rfl, by decide +kernel, rfl, by decide +kernel, by decide +kernel⟩
theorem hs_bound_here (T : Tx w K mg) (D : Dn K mg "_law_bound_here" s_law_bound_here f) : Hs P w K mg base CX0 1 "_law_bound_here" ["_law_f"] (spBH K) := by
  refine Hs.of D sc_law_bound_here (fun vs H Q E h => ?_) (fun _ _ _ _ _ _ us hl => match us, hl with | [_], _ => rfl) (fun cdv A outer s H vs Q E hr h => ?_)
  · obtain ⟨f, v, rfl, _⟩ := h
    rfl
  obtain ⟨f, v, rfl, hf, q⟩ := h
  refine ⟨_, PSs.nox (pss_cons (ps_if (pt_cmpR op_in_seq (pe_ix ix_tup (pv 0) pe_int (fun _ _ => rfl)) (pe_lst (pa_cons pe_str (pa_cons pe_str (pa_cons pe_str pa_nil)))) rfl) (pss_one (ps_ret (pe_ix ix_tup (pv 0) pe_int (fun _ _ => rfl)))) pss_nil)
      (pss_cons (ps_if (pt_cmpR op_in_seq (pe_ix ix_tup (pv 0) pe_int (fun _ _ => rfl)) (pe_lst (pa_cons pe_str (pa_cons pe_str pa_nil))) rfl) (pss_one (ps_ret (pe_ix ix_tup (pv 0) pe_int (fun _ _ => rfl)))) pss_nil)
      (pss_one (ps_ret (pe_tup pa_nil))))), ?_⟩
  have hf0 := hf
  obtain ⟨a, xs, rfl, hat⟩ := Rp.at f hf
  cases f with
  | rel nm args =>
    obtain ⟨a', b', e', k1, k2⟩ := hf0
    cases e'
    refine rd_inw rfl (hat) ["some", "all", "tc"] [6, 7, 10] (by decide +kernel) (by decide) fun H1 e1 => ?_
    refine ifF rfl ?_
    refine rd_inw rfl (e1.tup hat) ["lfp", "pfp"] [8, 9] (by decide +kernel) (by decide) fun H2 e2 => ?_
    have e2 := e1.trans e2
    refine ifF rfl ?_
    exact ⟨sz 0 rfl, fun p hp => q p _ (e2.add hp) (SqT.of upd_same)⟩
  | cmp c x y =>
    obtain ⟨a', e', k1⟩ := hf0
    cases e'
    cases c with
    | false =>
      refine rd_inw rfl (hat) ["some", "all", "tc"] [6, 7, 10] (by decide +kernel) (by decide) fun H1 e1 => ?_
      refine ifF rfl ?_
      refine rd_inw rfl (e1.tup hat) ["lfp", "pfp"] [8, 9] (by decide +kernel) (by decide) fun H2 e2 => ?_
      have e2 := e1.trans e2
      refine ifF rfl ?_
      exact ⟨sz 0 rfl, fun p hp => q p _ (e2.add hp) (SqT.of upd_same)⟩
    | true =>
      refine rd_inw rfl (hat) ["some", "all", "tc"] [6, 7, 10] (by decide +kernel) (by decide) fun H1 e1 => ?_
      refine ifF rfl ?_
      refine rd_inw rfl (e1.tup hat) ["lfp", "pfp"] [8, 9] (by decide +kernel) (by decide) fun H2 e2 => ?_
      have e2 := e1.trans e2
      refine ifF rfl ?_
      exact ⟨sz 0 rfl, fun p hp => q p _ (e2.add hp) (SqT.of upd_same)⟩
  | neg g =>
    obtain ⟨a', u, e', k1, k2⟩ := hf0
    cases e'
    refine rd_inw rfl (hat) ["some", "all", "tc"] [6, 7, 10] (by decide +kernel) (by decide) fun H1 e1 => ?_
    refine ifF rfl ?_
    refine rd_inw rfl (e1.tup hat) ["lfp", "pfp"] [8, 9] (by decide +kernel) (by decide) fun H2 e2 => ?_
    have e2 := e1.trans e2
    refine ifF rfl ?_
    exact ⟨sz 0 rfl, fun p hp => q p _ (e2.add hp) (SqT.of upd_same)⟩
  | jn c fs =>
    obtain ⟨a', b', us, e', k1, k2, k3⟩ := hf0
    cases e'
    cases c with
    | false =>
      refine rd_inw rfl (hat) ["some", "all", "tc"] [6, 7, 10] (by decide +kernel) (by decide) fun H1 e1 => ?_
      refine ifF rfl ?_
      refine rd_inw rfl (e1.tup hat) ["lfp", "pfp"] [8, 9] (by decide +kernel) (by decide) fun H2 e2 => ?_
      have e2 := e1.trans e2
      refine ifF rfl ?_
      exact ⟨sz 0 rfl, fun p hp => q p _ (e2.add hp) (SqT.of upd_same)⟩
    | true =>
      refine rd_inw rfl (hat) ["some", "all", "tc"] [6, 7, 10] (by decide +kernel) (by decide) fun H1 e1 => ?_
      refine ifF rfl ?_
      refine rd_inw rfl (e1.tup hat) ["lfp", "pfp"] [8, 9] (by decide +kernel) (by decide) fun H2 e2 => ?_
      have e2 := e1.trans e2
      refine ifF rfl ?_
      exact ⟨sz 0 rfl, fun p hp => q p _ (e2.add hp) (SqT.of upd_same)⟩
  | qu c vs g =>
    obtain ⟨a', b', u, e', k1, k2, k3⟩ := hf0
    cases e'
    cases c with
    | false =>
      refine rd_inw rfl (hat) ["some", "all", "tc"] [6, 7, 10] (by decide +kernel) (by decide) fun H1 e1 => ?_
      refine ifT rfl ?_
      exact ⟨_, rfl, _, _, _, _, rfl, rfl, e1.tup k1, rfl, q _ _ e1 (e1.tup k2)⟩
    | true =>
      refine rd_inw rfl (hat) ["some", "all", "tc"] [6, 7, 10] (by decide +kernel) (by decide) fun H1 e1 => ?_
      refine ifT rfl ?_
      exact ⟨_, rfl, _, _, _, _, rfl, rfl, e1.tup k1, rfl, q _ _ e1 (e1.tup k2)⟩
  | fx c nm vs g args =>
    obtain ⟨a', b', c', u, e', k1, k2, k3, k4⟩ := hf0
    cases e'
    cases c with
    | false =>
      refine rd_inw rfl (hat) ["some", "all", "tc"] [6, 7, 10] (by decide +kernel) (by decide) fun H1 e1 => ?_
      refine ifF rfl ?_
      refine rd_inw rfl (e1.tup hat) ["lfp", "pfp"] [8, 9] (by decide +kernel) (by decide) fun H2 e2 => ?_
      have e2 := e1.trans e2
      refine ifT rfl ?_
      exact ⟨_, rfl, _, _, _, _, rfl, rfl, e2.tup k1, rfl, q _ _ e2 (e2.tup k2)⟩
    | true =>
      refine rd_inw rfl (hat) ["some", "all", "tc"] [6, 7, 10] (by decide +kernel) (by decide) fun H1 e1 => ?_
      refine ifF rfl ?_
      refine rd_inw rfl (e1.tup hat) ["lfp", "pfp"] [8, 9] (by decide +kernel) (by decide) fun H2 e2 => ?_
      have e2 := e1.trans e2
      refine ifT rfl ?_
      exact ⟨_, rfl, _, _, _, _, rfl, rfl, e2.tup k1, rfl, q _ _ e2 (e2.tup k2)⟩
  | tc vs g args =>
    obtain ⟨a', b', c', u, e', k1, k2, k3, k4⟩ := hf0
    cases e'
    refine rd_inw rfl (hat) ["some", "all", "tc"] [6, 7, 10] (by decide +kernel) (by decide) fun H1 e1 => ?_
    refine ifT rfl ?_
    exact ⟨_, rfl, _, _, _, _, rfl, rfl, e1.tup k1, rfl, q _ _ e1 (e1.tup k2)⟩
  | gs nm ar g =>
    obtain ⟨a', u, e', k1, k2⟩ := hf0
    cases e'
    refine rd_inw rfl (hat) ["some", "all", "tc"] [6, 7, 10] (by decide +kernel) (by decide) fun H1 e1 => ?_
    refine ifF rfl ?_
    refine rd_inw rfl (e1.tup hat) ["lfp", "pfp"] [8, 9] (by decide +kernel) (by decide) fun H2 e2 => ?_
    have e2 := e1.trans e2
    refine ifF rfl ?_
    exact ⟨sz 0 rfl, fun p hp => q p _ (e2.add hp) (SqT.of upd_same)⟩
def spLOwn (K : PySem.W.Frag) : L2.Sp := fun vs H Q _ => ∃ f v, vs = [v] ∧ Rp K H f v ∧ spTx K (sv (ownA f)) H Q
theorem sc_law_own : FnScope ["_law_f"] ["_law_f"] (defScope s_law_own) := ⟨rfl, rfl, rfl, by decide +kernel, rfl, by decide +kernel, by decide +kernel⟩
theorem hs_law_own (T : Tx w K mg) (D : Dn K mg "_law_own" s_law_own f) : Hs P w K mg base CX0 1 "_law_own" ["_law_f"] (spLOwn K) := by
  refine Hs.of D sc_law_own (fun vs H Q E h => ?_) (fun _ _ _ _ _ _ us hl => match us, hl with | [_], _ => rfl) (fun cdv A outer s H vs Q E hr h => ?_)
  · obtain ⟨f, v, rfl, _⟩ := h
    rfl
  obtain ⟨f, v, rfl, hf, q⟩ := h
  refine ⟨_, PSs.nox (pss_cons (ps_if (pt_cmpR op_eq (pe_ix ix_tup (pv 0) pe_int (fun _ _ => rfl)) pe_str (nomark _)) (pss_one (ps_ret (pe_ix ix_tup (pv 0) pe_int (fun _ _ => rfl)))) pss_nil)
      (pss_cons (ps_if (PW.pt (pw_or (pt_cmpR op_eq (pe_ix ix_tup (pv 0) pe_int (fun _ _ => rfl)) pe_str (nomark _)) (pw_or1 (pt_cmpR op_eq (pe_ix ix_tup (pv 0) pe_int (fun _ _ => rfl)) pe_str (nomark _))))) (pss_one (ps_ret (pe_tup (pa_cons (pe_ix ix_tup (pv 0) pe_int (fun _ _ => rfl)) (pa_cons (pe_ix ix_tup (pv 0) pe_int (fun _ _ => rfl)) pa_nil))))) pss_nil)
      (pss_cons (ps_if (pt_cmpR op_eq (pe_ix ix_tup (pv 0) pe_int (fun _ _ => rfl)) pe_str (nomark _)) (pss_one (ps_ret (pe_ix ix_tup (pv 0) pe_int (fun _ _ => rfl)))) pss_nil)
      (pss_cons (ps_if (pt_cmpR op_in_seq (pe_ix ix_tup (pv 0) pe_int (fun _ _ => rfl)) (pe_lst (pa_cons pe_str (pa_cons pe_str pa_nil))) rfl) (pss_one (ps_ret (pe_ix ix_tup (pv 0) pe_int (fun _ _ => rfl)))) pss_nil)
      (pss_one (ps_ret (pe_tup pa_nil))))))), ?_⟩
  have hf0 := hf
  obtain ⟨a, xs, rfl, hat⟩ := Rp.at f hf
  cases f with
  | rel nm args =>
    obtain ⟨a', b', e', k1, k2⟩ := hf0
    cases e'
    refine rd_eqw rfl hat "rel" 0 (by decide +kernel) ?_
    refine ifT rfl ?_
    exact ⟨_, rfl, _, _, _, _, rfl, rfl, k1, rfl, q _ _ .refl k2⟩
  | cmp c x y =>
    obtain ⟨a', e', k1⟩ := hf0
    cases e'
    cases c with
    | false =>
      refine rd_eqw rfl hat "rel" 0 (by decide +kernel) ?_
      refine ifF rfl ?_
      refine rd_eqw rfl hat "eq" 1 (by decide +kernel) ?_
      refine ifT rfl (ifT rfl ?_)
      exact ⟨_, rfl, _, _, _, _, rfl, rfl, k1, rfl, _, rfl, _, _, _, _, rfl, rfl, k1, rfl, sz 2 rfl, fun p hp => q p _ (.new hp) (SqT.of upd_same)⟩
    | true =>
      refine rd_eqw rfl hat "rel" 0 (by decide +kernel) ?_
      refine ifF rfl ?_
      refine rd_eqw rfl hat "eq" 1 (by decide +kernel) ?_
      refine ifF rfl ?_
      refine rd_eqw rfl hat "less" 2 (by decide +kernel) ?_
      refine ifT rfl ?_
      exact ⟨_, rfl, _, _, _, _, rfl, rfl, k1, rfl, _, rfl, _, _, _, _, rfl, rfl, k1, rfl, sz 2 rfl, fun p hp => q p _ (.new hp) (SqT.of upd_same)⟩
  | neg g =>
    obtain ⟨a', u, e', k1, k2⟩ := hf0
    cases e'
    refine rd_eqw rfl hat "rel" 0 (by decide +kernel) ?_
    refine ifF rfl ?_
    refine rd_eqw rfl hat "eq" 1 (by decide +kernel) ?_
    refine ifF rfl ?_
    refine rd_eqw rfl hat "less" 2 (by decide +kernel) ?_
    refine ifF rfl ?_
    refine rd_eqw rfl hat "tc" 10 (by decide +kernel) ?_
    refine ifF rfl ?_
    refine rd_inw rfl hat ["lfp", "pfp"] [8, 9] (by decide +kernel) (by decide) fun H1 e1 => ?_
    refine ifF rfl ?_
    exact ⟨sz 0 rfl, fun p hp => q p _ (e1.add hp) (SqT.of upd_same)⟩
  | jn c fs =>
    obtain ⟨a', b', us, e', k1, k2, k3⟩ := hf0
    cases e'
    cases c with
    | false =>
      refine rd_eqw rfl hat "rel" 0 (by decide +kernel) ?_
      refine ifF rfl ?_
      refine rd_eqw rfl hat "eq" 1 (by decide +kernel) ?_
      refine ifF rfl ?_
      refine rd_eqw rfl hat "less" 2 (by decide +kernel) ?_
      refine ifF rfl ?_
      refine rd_eqw rfl hat "tc" 10 (by decide +kernel) ?_
      refine ifF rfl ?_
      refine rd_inw rfl hat ["lfp", "pfp"] [8, 9] (by decide +kernel) (by decide) fun H1 e1 => ?_
      refine ifF rfl ?_
      exact ⟨sz 0 rfl, fun p hp => q p _ (e1.add hp) (SqT.of upd_same)⟩
    | true =>
      refine rd_eqw rfl hat "rel" 0 (by decide +kernel) ?_
      refine ifF rfl ?_
      refine rd_eqw rfl hat "eq" 1 (by decide +kernel) ?_
      refine ifF rfl ?_
      refine rd_eqw rfl hat "less" 2 (by decide +kernel) ?_
      refine ifF rfl ?_
      refine rd_eqw rfl hat "tc" 10 (by decide +kernel) ?_
      refine ifF rfl ?_
      refine rd_inw rfl hat ["lfp", "pfp"] [8, 9] (by decide +kernel) (by decide) fun H1 e1 => ?_
      refine ifF rfl ?_
      exact ⟨sz 0 rfl, fun p hp => q p _ (e1.add hp) (SqT.of upd_same)⟩
  | qu c vs g =>
    obtain ⟨a', b', u, e', k1, k2, k3⟩ := hf0
    cases e'
    cases c with
    | false =>
      refine rd_eqw rfl hat "rel" 0 (by decide +kernel) ?_
      refine ifF rfl ?_
      refine rd_eqw rfl hat "eq" 1 (by decide +kernel) ?_
      refine ifF rfl ?_
      refine rd_eqw rfl hat "less" 2 (by decide +kernel) ?_
      refine ifF rfl ?_
      refine rd_eqw rfl hat "tc" 10 (by decide +kernel) ?_
      refine ifF rfl ?_
      refine rd_inw rfl hat ["lfp", "pfp"] [8, 9] (by decide +kernel) (by decide) fun H1 e1 => ?_
      refine ifF rfl ?_
      exact ⟨sz 0 rfl, fun p hp => q p _ (e1.add hp) (SqT.of upd_same)⟩
    | true =>
      refine rd_eqw rfl hat "rel" 0 (by decide +kernel) ?_
      refine ifF rfl ?_
      refine rd_eqw rfl hat "eq" 1 (by decide +kernel) ?_
      refine ifF rfl ?_
      refine rd_eqw rfl hat "less" 2 (by decide +kernel) ?_
      refine ifF rfl ?_
      refine rd_eqw rfl hat "tc" 10 (by decide +kernel) ?_
      refine ifF rfl ?_
      refine rd_inw rfl hat ["lfp", "pfp"] [8, 9] (by decide +kernel) (by decide) fun H1 e1 => ?_
      refine ifF rfl ?_
      exact ⟨sz 0 rfl, fun p hp => q p _ (e1.add hp) (SqT.of upd_same)⟩
  | fx c nm vs g args =>
    obtain ⟨a', b', c', u, e', k1, k2, k3, k4⟩ := hf0
    cases e'
    cases c with
    | false =>
      refine rd_eqw rfl hat "rel" 0 (by decide +kernel) ?_
      refine ifF rfl ?_
      refine rd_eqw rfl hat "eq" 1 (by decide +kernel) ?_
      refine ifF rfl ?_
      refine rd_eqw rfl hat "less" 2 (by decide +kernel) ?_
      refine ifF rfl ?_
      refine rd_eqw rfl hat "tc" 10 (by decide +kernel) ?_
      refine ifF rfl ?_
      refine rd_inw rfl hat ["lfp", "pfp"] [8, 9] (by decide +kernel) (by decide) fun H1 e1 => ?_
      refine ifT rfl ?_
      exact ⟨_, rfl, _, _, _, _, rfl, rfl, e1.tup k1, rfl, q _ _ e1 (e1.tup k3)⟩
    | true =>
      refine rd_eqw rfl hat "rel" 0 (by decide +kernel) ?_
      refine ifF rfl ?_
      refine rd_eqw rfl hat "eq" 1 (by decide +kernel) ?_
      refine ifF rfl ?_
      refine rd_eqw rfl hat "less" 2 (by decide +kernel) ?_
      refine ifF rfl ?_
      refine rd_eqw rfl hat "tc" 10 (by decide +kernel) ?_
      refine ifF rfl ?_
      refine rd_inw rfl hat ["lfp", "pfp"] [8, 9] (by decide +kernel) (by decide) fun H1 e1 => ?_
      refine ifT rfl ?_
      exact ⟨_, rfl, _, _, _, _, rfl, rfl, e1.tup k1, rfl, q _ _ e1 (e1.tup k3)⟩
  | tc vs g args =>
    obtain ⟨a', b', c', u, e', k1, k2, k3, k4⟩ := hf0
    cases e'
    refine rd_eqw rfl hat "rel" 0 (by decide +kernel) ?_
    refine ifF rfl ?_
    refine rd_eqw rfl hat "eq" 1 (by decide +kernel) ?_
    refine ifF rfl ?_
    refine rd_eqw rfl hat "less" 2 (by decide +kernel) ?_
    refine ifF rfl ?_
    refine rd_eqw rfl hat "tc" 10 (by decide +kernel) ?_
    refine ifT rfl ?_
    exact ⟨_, rfl, _, _, _, _, rfl, rfl, k1, rfl, q _ _ .refl k3⟩
  | gs nm ar g =>
    obtain ⟨a', u, e', k1, k2⟩ := hf0
    cases e'
    refine rd_eqw rfl hat "rel" 0 (by decide +kernel) ?_
    refine ifF rfl ?_
    refine rd_eqw rfl hat "eq" 1 (by decide +kernel) ?_
    refine ifF rfl ?_
    refine rd_eqw rfl hat "less" 2 (by decide +kernel) ?_
    refine ifF rfl ?_
    refine rd_eqw rfl hat "tc" 10 (by decide +kernel) ?_
    refine ifF rfl ?_
    refine rd_inw rfl hat ["lfp", "pfp"] [8, 9] (by decide +kernel) (by decide) fun H1 e1 => ?_
    refine ifF rfl ?_
    exact ⟨sz 0 rfl, fun p hp => q p _ (e1.add hp) (SqT.of upd_same)⟩
end
end Say
set_option maxRecDepth 100000
set_option maxHeartbeats 4000000
/-! the law: plain, how many quantifiers, the matrix, the cost -/
namespace Say
open PySem PySem.Spec PyProof.Rows L2 Fm
theorem qf_wk {f : Fm} (h : qf f = true) : ([0, 1, 2, 3, 4, 5] : List Nat).contains (wk f) = true := by
  cases f with
  | cmp c _ _ => cases c <;> rfl
  | jn c _ => cases c <;> rfl
  | qu c _ _ => cases h
  | fx c _ _ _ _ => cases h
  | tc _ _ _ => cases h
  | gs _ _ _ => cases h
  | _ => rfl
theorem qf_kid {f g : Fm} (h : qf f = true) (hg : g ∈ kids f) : qf g = true := by
  cases f with
  | rel nm args => cases hg
  | cmp c x y => cases hg
  | neg g0 => rw [List.mem_singleton.mp hg]; exact h
  | jn c fs => exact qfs_all.mp h g hg
  | qu c vs g0 => cases h
  | fx l m vs g0 args => cases h
  | tc vs g0 args => cases h
  | gs m ar g0 => cases h
section
variable {P : Program} {w : World} {K : PySem.W.Frag} {mg : Str → Option Value} {base : Heap} {f : Addr} {B : Nat}
def spLPlain (K : PySem.W.Frag) (n : Nat) : L2.Sp := fun vs H Q _ => ∃ f v, vs = [v] ∧ Rp K H f v ∧ qf f = true ∧ dp f ≤ n ∧ ∀ H', Ext [] H H' → Q (.bl true) H'
theorem sc_law_plain : FnScope ["_law_f", "_law_part"] ["_law_f"] (defScope s_law_plain) := ⟨rfl, rfl, rfl, by decide +kernel, rfl, by decide +kernel, by decide +kernel⟩
theorem hs_law_plain (T : Tx w K mg) (D : Dn K mg "_law_plain" s_law_plain f) (h_law_parts : Hs P w K mg base CX0 1 "_law_parts" ["_law_f"] (spParts K)) :
    ∀ n, Hs P w K mg base CX0 (1 + n + 1) "_law_plain" ["_law_f"] (spLPlain K n) := by
  intro n
  induction n with
  | zero =>
    refine Hs.of D sc_law_plain (fun vs H Q E h => ?_) (fun _ _ _ _ _ _ us hl => match us, hl with | [_], _ => rfl) (fun cdv A outer s H vs Q E hr h => ?_)
    · obtain ⟨f, v, rfl, _⟩ := h
      rfl
    obtain ⟨f, v, rfl, _, _, h, _⟩ := h
    exact absurd (dp_pos f) (by omega)
  | succ n ih =>
    have h_law_plain := ih
    refine Hs.of D sc_law_plain (fun vs H Q E h => ?_) (fun _ _ _ _ _ _ us hl => match us, hl with | [_], _ => rfl) (fun cdv A outer s H vs Q E hr h => ?_)
    · obtain ⟨f, v, rfl, _⟩ := h
      rfl
    obtain ⟨f, v, rfl, hf, hq, hn, q⟩ := h
    refine ⟨_, PSs.nox (pss_cons (ps_if (pt_cmpR op_notIn_seq (pe_ix ix_tup (pv 0) pe_int (fun _ _ => rfl)) (pe_lst (pa_cons pe_str (pa_cons pe_str (pa_cons pe_str (pa_cons pe_str (pa_cons pe_str (pa_cons pe_str pa_nil))))))) rfl) (pss_one (ps_ret pe_bl)) pss_nil)
      (pss_one (ps_ret (pe_cmpR op_eq (pe_callB call_len_seq (by rfl) T.zlen PySem.boot_len (pa_cons (pe_lc (own := [("_law_part", 1)]) (g := gName 1) rfl sc_law_plain.nd (pi_list (pe_h h_law_parts (hr.mono (by omega)) rfl pass0 (pa_cons (pv 0) pa_nil))) (blkOk_by (own := [("_law_part", 1)]) (N := ["_law_f", "_law_part"]) (sc := defScope s_law_plain) (by decide +kernel)) (fun _ _ _ _ _ => pg_name (i := 1) sc_law_plain.nd rfl (Or.inl rfl)) (fun _ _ _ _ _ => pts_one (pt_not (pt_val (pe_h h_law_plain (hr.mono (by omega)) rfl pass0 (pa_cons (pv 1) pa_nil))))) (fun _ _ _ _ _ => (pv 1))) pa_nil)) pe_int (nomark _))))), ?_⟩
    have hf0 := hf
    obtain ⟨a, xs, rfl, hat⟩ := Rp.at f hf
    refine rd_notinw rfl hat ["rel", "eq", "less", "not", "and", "or"] [0, 1, 2, 3, 4, 5] (by decide +kernel) (by decide) fun H1 e1 => ?_
    refine ifF (by rw [qf_wk hq]; rfl) ?_
    refine ⟨_, rfl, f, _, rfl, Rp.ext e1 f hf0, fun p us H2 e2 hp hs hp0 => ⟨p, rfl, ⟨_, .inl (.inl hp)⟩, fun B hB => ?_⟩⟩
    refine lc_partsL (.inl (.inl hp)) hs (S := []) (fun dn H' => H' B = some (.lst []) ∧ Ext [] H2 H') (by simp) ⟨upd_same, .new hB⟩ (fun dn H' z => z.2) (fun dn x r u H' hk hx ⟨h1, e3⟩ => ?_) (fun H' ⟨h1, e3⟩ => ?_)
    · have hxk : x ∈ kids f := by rw [hk]; simp
      have hd := dp_kid hxk
      refine ⟨rfl, ?_⟩
      refine ⟨_, rfl, x, _, rfl, hx, qf_kid hq hxk, by omega, fun H4 e4 => ⟨_, rfl, ?_⟩⟩
      exact ifF rfl ⟨e4.get0 h1, e3.trans e4⟩
    · refine ⟨_, _, rfl, .inl (.inl (.inl h1)), rfl, ?_⟩
      exact q _ (e1.trans (e2.trans e3))
def spQuant (K : PySem.W.Frag) (n : Nat) : L2.Sp := fun vs H Q _ => ∃ f v, vs = [v] ∧ Rp K H f v ∧ fo f = true ∧ dp f ≤ n ∧ (kids f).length ≤ 1000 ∧ (∃ s0 b, Wf s0 b f) ∧ ∀ H', Ext [] H H' → Q (.int (qn f : Nat)) H'
theorem sum_nat : ∀ ns : List Nat, ((ns.map fun n => ((n : Nat) : Int)).sum) = ((ns.sum : Nat) : Int)
  | [] => rfl
  | n :: ns => by
    simp only [List.map_cons, List.sum_cons]
    rw [sum_nat ns]
    omega
theorem qns_sum : ∀ fs : List Fm, (fs.map qn).sum = qns fs
  | [] => rfl
  | f :: fs => by
    simp only [List.map_cons, List.sum_cons]
    rw [qns_sum fs]
    rfl
theorem kid_len {f : Fm} (h : fo f = true) (w : ∃ s0 b, Wf s0 b f) : (kids f).length ≤ 1000 := by
  obtain ⟨s0, b, w⟩ := w
  cases f with
  | rel _ _ => exact Nat.zero_le _
  | cmp _ _ _ => exact Nat.zero_le _
  | neg _ => exact (by decide : 1 ≤ 1000)
  | jn c fs => exact Nat.le_trans w.1 (by decide)
  | qu _ _ _ => exact (by decide : 1 ≤ 1000)
  | fx l m vs g args => cases h
  | tc vs g args => cases h
  | gs m ar g => cases h
theorem sc_law_quantifiers : FnScope ["_law_f", "_law_here", "_law_part"] ["_law_f"] (defScope s_law_quantifiers) := ⟨rfl, rfl, rfl, by decide +kernel, rfl, by decide +kernel, by decide +kernel⟩
theorem hs_quantifiers (T : Tx w K mg) (D : Dn K mg "_law_quantifiers" s_law_quantifiers f) (h_law_parts : Hs P w K mg base CX0 1 "_law_parts" ["_law_f"] (spParts K)) (h_law_bound_here : Hs P w K mg base CX0 1 "_law_bound_here" ["_law_f"] (spBH K)) :
    ∀ n, Hs P w K mg base CX0 (1 + n + 1) "_law_quantifiers" ["_law_f"] (spQuant K n) := by
  intro n
  induction n with
  | zero =>
    refine Hs.of D sc_law_quantifiers (fun vs H Q E h => ?_) (fun _ _ _ _ _ _ us hl => match us, hl with | [_], _ => rfl) (fun cdv A outer s H vs Q E hr h => ?_)
    · obtain ⟨f, v, rfl, _⟩ := h
      rfl
    obtain ⟨f, v, rfl, _, _, h, _⟩ := h
    exact absurd (dp_pos f) (by omega)
  | succ n ih =>
    have h_law_quantifiers := ih
    refine Hs.of D sc_law_quantifiers (fun vs H Q E h => ?_) (fun _ _ _ _ _ _ us hl => match us, hl with | [_], _ => rfl) (fun cdv A outer s H vs Q E hr h => ?_)
    · obtain ⟨f, v, rfl, _⟩ := h
      rfl
    obtain ⟨f, v, rfl, hf, hfo, hn, hkl, hwf, q⟩ := h
    refine ⟨_, PSs.nox (pss_cons (ps_set (i := 1) sc_law_quantifiers.nd rfl (by first | exact Or.inl rfl | exact Or.inr rfl) (pe_op op_mul (pe_callTy call_int1 (by rfl) T.zint (by decide +kernel) (pa_cons (pe_cmpR op_in_seq (pe_ix ix_tup (pv 0) pe_int (fun _ _ => rfl)) (pe_lst (pa_cons pe_str (pa_cons pe_str pa_nil))) rfl) pa_nil)) (pe_callB call_len_seq (by rfl) T.zlen PySem.boot_len (pa_cons (pe_h h_law_bound_here (hr.mono (by omega)) rfl pass0 (pa_cons (pv 0) pa_nil)) pa_nil))))
      (pss_one (ps_ret (pe_op op_add (pv 1) (pe_callB (cr_sum rfl) (by rfl) T.zsum (by decide +kernel) (pa_cons (pe_lc (own := [("_law_part", 2)]) (g := gName 2) rfl sc_law_quantifiers.nd (pi_list (pe_h h_law_parts (hr.mono (by omega)) rfl pass0 (pa_cons (pv 0) pa_nil))) (blkOk_by (own := [("_law_part", 2)]) (N := ["_law_f", "_law_here", "_law_part"]) (sc := defScope s_law_quantifiers) (by decide +kernel)) (fun _ _ _ _ _ => pg_name (i := 2) sc_law_quantifiers.nd rfl (Or.inl rfl)) (fun _ _ _ _ _ => pts_nil) (fun _ _ _ _ _ => (pe_h h_law_quantifiers (hr.mono (by omega)) rfl pass0 (pa_cons (pv 2) pa_nil)))) pa_nil)))))), ?_⟩
    have hf0 := hf
    obtain ⟨a, xs, rfl, hat⟩ := Rp.at f hf
    obtain ⟨s0, b, wf⟩ := hwf
    obtain ⟨_, w2⟩ := wf_own wf
    refine ⟨_, rfl, _, _, _, _, rfl, rfl, hat, at_zero, sz 2 rfl, fun p1 hp1 => ?_⟩
    have e1 : Ext [] H (upd H p1 (.lst [.str "some", .str "all"])) := .new hp1
    refine ⟨_, _, rfl, .inl (.inl (.inl upd_same)), rfl, rfl, .inr ⟨_, rfl, ?_⟩⟩
    refine ⟨_, rfl, f, _, rfl, Rp.ext e1 f hf0, fun p2 H2 e2 hp2 => ?_⟩
    have hin : inV (V.str (wd f)) [.str "some", .str "all"] = ([6, 7] : List Nat).contains (wk f) := wd_in ["some", "all"] [6, 7] (by decide +kernel)
    have hbl : (sv (ownV f)).length = (ownV f).length := List.length_map _
    have hval : (if ([6, 7] : List Nat).contains (wk f) = true then (1 : Int) else 0) * (((sv (ownV f)).length : Nat) : Int) = ((ownV f).length : Nat) := by
      rw [hbl]
      cases f with
      | qu c vs g => cases c <;> (show (1 : Int) * _ = _) <;> rw [Int.one_mul]
      | cmp c _ _ => cases c <;> rfl
      | jn c _ => cases c <;> rfl
      | rel _ _ => rfl
      | neg _ => rfl
      | fx l m vs g args => cases hfo
      | tc vs g args => cases hfo
      | gs m ar g => cases hfo
    refine ⟨_, _, rfl, .inr hp2, _, _, rfl, rfl, .inl ?_, ?_⟩
    · show -(2 ^ 64) < (if inV (V.str (wd f)) [.str "some", .str "all"] = true then (1 : Int) else 0) ∧ (if inV (V.str (wd f)) [.str "some", .str "all"] = true then (1 : Int) else 0) < 2 ^ 64
      cases inV (V.str (wd f)) [.str "some", .str "all"] <;> decide
    show _
    refine ⟨_, rfl, ?_⟩
    refine ⟨_, rfl, f, _, rfl, Rp.ext (e1.trans e2) f hf0, fun p us H3 e3 hp hs hp0 => ⟨p, rfl, ⟨_, .inl (.inl hp)⟩, fun B hB => ?_⟩⟩
    have hul := Rps.length hs
    refine lc_partsL (.inl (.inl hp)) hs (S := []) (fun dn H' => H' B = some (.lst ((dn.map fun g => ((qn g : Nat) : Int)).map V.int)) ∧ Ext [] H3 H') (by simp) ⟨upd_same, .new hB⟩ (fun dn H' z => z.2) (fun dn x r u H' hk hx ⟨h1, e4⟩ => ?_) (fun H' ⟨h1, e4⟩ => ?_)
    · have hxk : x ∈ kids f := by rw [hk]; simp
      have hd := dp_kid hxk
      have hdl : dn.length ≤ (kids f).length := by rw [hk, List.length_append]; omega
      have hwx := wf_kid wf hxk
      refine ⟨rfl, ?_⟩
      refine ⟨_, rfl, x, _, rfl, hx, fo_kid hfo hxk, by omega, kid_len (fo_kid hfo hxk) ⟨s0, hwx⟩, ⟨s0, hwx⟩, fun H5 e5 => ?_⟩
      refine ⟨_, e5.get0 h1, big_sz (by rw [List.length_map, List.length_map]; omega), ?_, (e4.trans e5).mut hB⟩
      rw [upd_same, List.map_append, List.map_append]
      rfl
    · refine ⟨B, _, rfl, .inl (.inl h1), ?_⟩
      refine ⟨_, _, rfl, rfl, ?_⟩
      have fin : (if ([6, 7] : List Nat).contains (wk f) = true then (1 : Int) else 0) * (((sv (ownV f)).length : Nat) : Int) + ((kids f).map fun g => ((qn g : Nat) : Int)).sum = (qn f : Nat) := by
        have hm : (kids f).map (fun g => ((qn g : Nat) : Int)) = ((kids f).map qn).map (fun n => ((n : Nat) : Int)) := by
          rw [List.map_map]
          rfl
        rw [hval, qn_kids hfo, hm, sum_nat, qns_sum]
        omega
      have y := q H' (e1.trans (e2.trans (e3.trans e4)))
      rw [← fin, ← hin] at y
      exact y
def spMat (K : PySem.W.Frag) : L2.Sp := fun vs H Q _ => ∃ hs r v, vs = [v] ∧ Rp K H (wrap hs r) v ∧ hs.length ≤ 60 ∧ qf r = true ∧ ∀ v', Rp K H r v' → Q v' H
theorem sc_law_matrix : FnScope ["_law_f", "_law_k"] ["_law_f"] (defScope s_law_matrix) := ⟨rfl, rfl, rfl, by decide +kernel, rfl, by decide +kernel, by decide +kernel⟩
theorem hs_matrix (T : Tx w K mg) (D : Dn K mg "_law_matrix" s_law_matrix f) : Hs P w K mg base CX0 1 "_law_matrix" ["_law_f"] (spMat K) := by
  refine Hs.of D sc_law_matrix (fun vs H Q E h => ?_) (fun _ _ _ _ _ _ us hl => match us, hl with | [_], _ => rfl) (fun cdv A outer s H vs Q E hr h => ?_)
  · obtain ⟨hs, r, v, rfl, _⟩ := h
    rfl
  obtain ⟨hs, r, v, rfl, hf, hl, hq, q⟩ := h
  refine ⟨_, PSs.nox (pss_cons (ps_for PassesOwn.never rfl (pi_range1 rfl T.zrange (pa_cons pe_int pa_nil)) (pg_name (i := 1) sc_law_matrix.nd rfl (by first | exact Or.inl rfl | exact Or.inr rfl)) (pss_one (ps_if (PW.pt (pw_or (pt_cmpR op_eq (pe_ix ix_tup (pv 0) pe_int (fun _ _ => rfl)) pe_str (nomark _)) (pw_or1 (pt_cmpR op_eq (pe_ix ix_tup (pv 0) pe_int (fun _ _ => rfl)) pe_str (nomark _))))) (pss_one (ps_set (i := 0) sc_law_matrix.nd rfl (by first | exact Or.inl rfl | exact Or.inr rfl) (pe_ix ix_tup (pv 0) pe_int (fun _ _ => rfl)))) pss_nil)))
      (pss_one (ps_ret (pv 0)))), ?_⟩
  refine ⟨60, rfl, by decide, by decide, for_range (n := 60) (fun i σ H' => (∃ v' o, σ = [some v', o] ∧ Rp K H (wrap (hs.drop i) r) v') ∧ H' = H) ⟨⟨v, _, rfl, hf⟩, rfl⟩ (fun i σ H' hi ⟨⟨v', o, e, hv⟩, e2⟩ => ?_) (fun σ H' ⟨⟨v', o, e, hv⟩, e2⟩ => ?_)⟩
  · subst e e2
    cases hd : hs.drop i with
    | nil =>
      rw [hd] at hv
      have hv : Rp K H' r v' := hv
      obtain ⟨a, xs, rfl, hat⟩ := Rp.at r hv
      have hk : (wk r == 6) = false ∧ (wk r == 7) = false := by
        cases r with
        | cmp c _ _ => cases c <;> exact ⟨rfl, rfl⟩
        | jn c _ => cases c <;> exact ⟨rfl, rfl⟩
        | qu c _ _ => cases hq
        | fx c _ _ _ _ => cases hq
        | tc _ _ _ => cases hq
        | gs _ _ _ => cases hq
        | _ => exact ⟨rfl, rfl⟩
      refine rd_eqw rfl hat "some" 6 (by decide +kernel) (ifF hk.1 ?_)
      refine rd_eqw rfl hat "all" 7 (by decide +kernel) (ifF hk.2 ?_)
      refine ⟨⟨_, _, rfl, ?_⟩, rfl⟩
      have : hs.drop (i + 1) = [] := by
        have h := congrArg List.length hd
        rw [List.length_drop] at h
        exact List.drop_eq_nil_iff.mpr (by simp at h; omega)
      rw [this]
      exact hv
    | cons h hs' =>
      have hd1 : hs.drop (i + 1) = hs' := by
        have := congrArg List.tail hd
        rw [List.tail_drop] at this
        exact this
      rw [hd, wrap_cons] at hv
      obtain ⟨a, b, u, rfl, k1, k2, k3⟩ := hv
      have k1' := k1
      cases hc : h.1 with
      | false =>
        rw [hc] at k1
        refine ⟨_, rfl, _, _, _, _, rfl, rfl, k1, rfl, rfl, _, rfl, ifT (decide_eq_true rfl) (ifT rfl ?_)⟩
        refine ⟨_, rfl, _, _, _, _, rfl, rfl, k1, rfl, ⟨_, _, rfl, ?_⟩, rfl⟩
        rw [hd1]
        exact k3
      | true =>
        rw [hc] at k1
        refine ⟨_, rfl, _, _, _, _, rfl, rfl, k1, rfl, rfl, _, rfl, ifF (decide_eq_false fun z => absurd (V.str.inj z : ("all" : Str) = "some") (by decide +kernel)) ?_⟩
        refine ⟨_, rfl, _, _, _, _, rfl, rfl, k1, rfl, rfl, _, rfl, ifT (decide_eq_true rfl) ?_⟩
        refine ⟨_, rfl, _, _, _, _, rfl, rfl, k1, rfl, ⟨_, _, rfl, ?_⟩, rfl⟩
        rw [hd1]
        exact k3
  · subst e e2
    rw [List.drop_of_length_le hl] at hv
    exact ⟨_, rfl, q v' hv⟩
def spCost (K : PySem.W.Frag) (n : Nat) : L2.Sp := fun vs H Q _ => ∃ f v, ∃ m : Int, vs = [v, .int m] ∧ Rp K H f v ∧ fo f = true ∧ dp f ≤ n ∧ (∃ s0 b, Wf s0 b f) ∧ 0 ≤ m ∧ m ≤ 3 ∧ ∀ c H', Ext [] H H' → Q (.int c) H'
theorem sc_law_cost : FnScope ["_law_f", "_law_n", "_law_inner", "_law_part", "_law_power", "_law_x", "_law_k"] ["_law_f", "_law_n"] (defScope s_law_cost) := ⟨rfl, rfl, rfl, by decide +kernel, rfl, by decide +kernel, by decide +kernel⟩
theorem hs_cost (T : Tx w K mg) (D : Dn K mg "_law_cost" s_law_cost f) (h_law_parts : Hs P w K mg base CX0 1 "_law_parts" ["_law_f"] (spParts K)) (h_law_bound_here : Hs P w K mg base CX0 1 "_law_bound_here" ["_law_f"] (spBH K)) :
    ∀ n, Hs P w K mg base CX0 (1 + n + 1) "_law_cost" ["_law_f", "_law_n"] (spCost K n) := by
  intro n
  induction n with
  | zero =>
    refine Hs.of D sc_law_cost (fun vs H Q E h => ?_) (fun _ _ _ _ _ _ us hl => match us, hl with | [_, _], _ => rfl) (fun cdv A outer s H vs Q E hr h => ?_)
    · obtain ⟨f, v, m, rfl, _⟩ := h
      rfl
    obtain ⟨f, v, m, rfl, _, _, h, _⟩ := h
    exact absurd (dp_pos f) (by omega)
  | succ n ih =>
    have h_law_cost := ih
    refine Hs.of D sc_law_cost (fun vs H Q E h => ?_) (fun _ _ _ _ _ _ us hl => match us, hl with | [_, _], _ => rfl) (fun cdv A outer s H vs Q E hr h => ?_)
    · obtain ⟨f, v, m, rfl, _⟩ := h
      rfl
    obtain ⟨f, v, m, rfl, hf, hfo, hn, hwf, hm0, hm3, q⟩ := h
    refine ⟨_, PSs.nox (pss_cons (ps_set (i := 2) sc_law_cost.nd rfl (by first | exact Or.inl rfl | exact Or.inr rfl) (pe_callB (cr_sum rfl) (by rfl) T.zsum (by decide +kernel) (pa_cons (pe_lc (own := [("_law_part", 3)]) (g := gName 3) rfl sc_law_cost.nd (pi_list (pe_h h_law_parts (hr.mono (by omega)) rfl pass0 (pa_cons (pv 0) pa_nil))) (blkOk_by (own := [("_law_part", 3)]) (N := ["_law_f", "_law_n", "_law_inner", "_law_part", "_law_power", "_law_x", "_law_k"]) (sc := defScope s_law_cost) (by decide +kernel)) (fun _ _ _ _ _ => pg_name (i := 3) sc_law_cost.nd rfl (Or.inl rfl)) (fun _ _ _ _ _ => pts_nil) (fun _ _ _ _ _ => (pe_h h_law_cost (hr.mono (by omega)) rfl pass0 (pa_cons (pv 3) (pa_cons (pv 1) pa_nil))))) pa_nil)))
      (pss_cons (ps_set (i := 4) sc_law_cost.nd rfl (by first | exact Or.inl rfl | exact Or.inr rfl) pe_int)
      (pss_cons (ps_for PassesOwn.never rfl (pi_tup (pe_h h_law_bound_here (hr.mono (by omega)) rfl pass0 (pa_cons (pv 0) pa_nil))) (pg_name (i := 5) sc_law_cost.nd rfl (by first | exact Or.inl rfl | exact Or.inr rfl)) (pss_one (ps_set (i := 4) sc_law_cost.nd rfl (by first | exact Or.inl rfl | exact Or.inr rfl) (pe_op op_mul (pv 4) (pv 1)))))
      (pss_cons (ps_if (pt_cmpR op_in_seq (pe_ix ix_tup (pv 0) pe_int (fun _ _ => rfl)) (pe_lst (pa_cons pe_str (pa_cons pe_str (pa_cons pe_str pa_nil)))) rfl) (pss_one (ps_ret (pe_callB (call_min2 rfl) (by rfl) T.zmin (by decide +kernel) (pa_cons (pe_op op_pow pe_int pe_int) (pa_cons (pe_op op_add pe_int (pe_op op_mul (pv 4) (pv 2))) pa_nil))))) pss_nil)
      (pss_cons (ps_if (pt_cmpR op_eq (pe_ix ix_tup (pv 0) pe_int (fun _ _ => rfl)) pe_str (nomark _)) (pss_one ps_never) pss_nil)
      (pss_cons (ps_if (pt_cmpR op_eq (pe_ix ix_tup (pv 0) pe_int (fun _ _ => rfl)) pe_str (nomark _)) (pss_one ps_never) pss_nil)
      (pss_cons (ps_if (pt_cmpR op_eq (pe_ix ix_tup (pv 0) pe_int (fun _ _ => rfl)) pe_str (nomark _)) (pss_cons ps_never
      (pss_one ps_never)) pss_nil)
      (pss_one (ps_ret (pe_callB (call_min2 rfl) (by rfl) T.zmin (by decide +kernel) (pa_cons (pe_op op_pow pe_int pe_int) (pa_cons (pe_op op_add pe_int (pv 2)) pa_nil)))))))))))), ?_⟩
    have hf0 := hf
    obtain ⟨a, xs, rfl, hat⟩ := Rp.at f hf
    have hkl := kid_len hfo hwf
    obtain ⟨s0, b, wf⟩ := hwf
    obtain ⟨_, w2⟩ := wf_own wf
    refine ⟨_, rfl, f, _, rfl, hf0, fun p us H3 e3 hp hs hp0 => ⟨p, rfl, ⟨_, .inl (.inl hp)⟩, fun B hB => ?_⟩⟩
    refine lc_partsL (.inl (.inl hp)) hs (S := []) (fun dn H' => ∃ cs : List Int, H' B = some (.lst (cs.map V.int)) ∧ cs.length = dn.length ∧ Ext [] H3 H') (by simp) ⟨[], upd_same, rfl, .new hB⟩ (fun dn H' ⟨_, _, _, e⟩ => e) (fun dn x r u H' hk hx ⟨cs, h1, h2, e4⟩ => ?_) (fun H4 ⟨cs, h1, h2, e4⟩ => ?_)
    · have hxk : x ∈ kids f := by rw [hk]; simp
      have hd := dp_kid hxk
      have hdl : dn.length ≤ (kids f).length := by rw [hk, List.length_append]; omega
      have hwx := wf_kid wf hxk
      refine ⟨rfl, ?_⟩
      refine ⟨_, rfl, _, rfl, x, _, _, rfl, hx, fo_kid hfo hxk, by omega, ⟨s0, hwx⟩, hm0, hm3, fun c H5 e5 => ?_⟩
      refine ⟨_, e5.get0 h1, big_sz (by rw [List.length_map]; omega), cs ++ [c], ?_, by simp [h2], (e4.trans e5).mut hB⟩
      rw [upd_same, List.map_append]
      rfl
    · refine ⟨B, _, rfl, .inl (.inl h1), ?_⟩
      have E4 := e3.trans e4
      refine ⟨_, rfl, f, _, rfl, Rp.ext E4 f hf0, fun p2 H5 e5 hp2 => ⟨p2, rfl, ⟨_, hp2⟩, for_tup (xs := sv (ownV f)) (fun i σ H' => (∃ pw : Int, ∃ o3 o5 o6, σ = [some (.ref a), some (.int m), some (.int cs.sum), o3, some (.int pw), o5, o6] ∧ 0 ≤ pw ∧ pw ≤ 3 ^ i) ∧ H' = H5) ⟨⟨1, _, _, _, rfl, by decide, by decide⟩, rfl⟩ (fun i σ H' _ z => by rw [z.2]; exact hp2)
        (fun i x σ H' hx ⟨⟨pw, o3, o5, o6, e, hp0, hp1⟩, eH⟩ => ?_) (fun σ H' ⟨⟨pw, o3, o5, o6, e, hp0, hp1⟩, eH⟩ => ?_)⟩⟩
      · subst e eH
        refine ⟨_, rfl, _, rfl, _, _, rfl, rfl, .inr ⟨by omega, by omega⟩, ?_⟩
        refine ⟨⟨pw * m, _, _, _, rfl, Int.mul_nonneg hp0 hm0, ?_⟩, rfl⟩
        rw [Int.pow_succ]
        exact Int.mul_le_mul hp1 hm3 hm0 (Int.pow_nonneg (by decide))
      · subst e eH
        have E5 := E4.trans e5
        have hp1' : pw < 2 ^ 64 := by
          rw [List.length_map] at hp1
          have : (3 : Int) ^ (ownV f).length ≤ 3 ^ 8 := by
            have q := Nat.pow_le_pow_right (n := 3) (by decide) w2
            exact_mod_cast q
          omega
        refine rd_inw rfl (E5.tup hat) ["some", "all", "tc"] [6, 7, 10] (by decide +kernel) (by decide) fun H6 e6 => ?_
        have E6 := E5.trans e6
        refine ifB (fun hb => ?_) (fun hb => ?_)
        · refine ⟨_, _, rfl, rfl, ⟨by decide, by decide, by decide⟩, _, rfl, _, rfl, _, _, rfl, rfl, .inl ⟨by omega, hp1'⟩, _, _, rfl, rfl, _, _, rfl, ?_⟩
          exact q _ _ E6
        · have hw : (wk f == 8) = false ∧ (wk f == 9) = false ∧ (wk f == 11) = false := by
            cases f with
            | cmp c _ _ => cases c <;> exact ⟨rfl, rfl, rfl⟩
            | jn c _ => cases c <;> exact ⟨rfl, rfl, rfl⟩
            | qu c _ _ => cases c <;> exact ⟨rfl, rfl, rfl⟩
            | rel _ _ => exact ⟨rfl, rfl, rfl⟩
            | neg _ => exact ⟨rfl, rfl, rfl⟩
            | fx l m vs g args => cases hfo
            | tc vs g args => cases hfo
            | gs m ar g => cases hfo
          refine rd_eqw rfl (E6.tup hat) "lfp" 8 (by decide +kernel) (ifF hw.1 ?_)
          refine rd_eqw rfl (E6.tup hat) "pfp" 9 (by decide +kernel) (ifF hw.2.1 ?_)
          refine rd_eqw rfl (E6.tup hat) "guess" 11 (by decide +kernel) (ifF hw.2.2 ?_)
          refine ⟨_, _, rfl, rfl, ⟨by decide, by decide, by decide⟩, _, rfl, _, _, rfl, rfl, _, _, rfl, ?_⟩
          exact q _ _ E6
end
end Say
set_option maxRecDepth 100000
set_option maxHeartbeats 4000000
/-! sorted texts, any many; pairs of a text and a number: in a list, sorted; rows of numbers in a list -/
namespace Say
open PySem PySem.Spec PyProof.Rows L2
theorem hu65 {A : Around} {k : Nat} (hr : Room k A) : A.units + 65 < cLine := by have := hr.un; omega
section
variable {X : Cx}
/-- sorted(xs), texts -/
def rSortedSA (K : PySem.W.Frag) : List V → Hp → VK → Prop := fun vs H Q => ∃ (a : Addr) (xs : List Str), vs = [V.ref a] ∧ SqL K H a (sv xs) ∧ xs.length ≤ 1000000 ∧
  ∀ (ys : List Str) (p : Addr), ys.Perm xs → H p = none → Q (.ref p) (upd H p (.lst (sv ys)))
theorem cr_sortedSA : CallR X (.builtin "sorted") (rSortedSA X.K) := by
  intro pins s σ H vs us Q I r h
  obtain ⟨a, xs, rfl, hs, hz, q⟩ := h
  obtain ⟨its, rv, hl, _⟩ := I.list hs
  rw [Vals.ref1 r]
  have hlen0 := rv.length
  rw [List.length_map] at hlen0
  refine PyProof.Rows.sorted_strsAny hl.isList rv.strs (by rw [← hlen0]; exact Nat.le_of_lt (big_sz hz)) fun out ys h1 h2 h3 => ?_
  obtain ⟨ep, he'⟩ := PyProof.Rows.sortedAll_at s.heap its out
  have hlen : (ys.map V.str).length ≤ sizeLine := by rw [List.length_map, h2.length_eq]; exact Nat.le_of_lt (big_sz hz)
  exact ⟨.ref _, upd H (s.heap.objs.size + 1) (.lst (ys.map V.str)), I.laid (t' := s.toks) (fun _ _ => PyProof.Rows.sortedAll_old) (Nat.le_succ _) ⟨hlen, out.toList, ep, vals_of_strs h1, he'⟩, rfl, q ys _ h2 (I.hok.fresh (Nat.le_succ _))⟩
/-! ### pairs -/
def Pr (K : PySem.W.Frag) (H : Hp) (p : Str × Nat) (u : V) : Prop := ∃ a, u = .ref a ∧ SqT K H a [.str p.1, .int (p.2 : Nat)]
def encP (p : Str × Nat) : PyData := .tuple [.str p.1, .int (p.2 : Nat)]
theorem Pr.ext {K : PySem.W.Frag} {S : List Addr} {H H1 : Hp} (x : Ext S H H1) (p : Str × Nat) (u : V) (h : Pr K H p u) : Pr K H1 p u := by
  obtain ⟨a, e, h⟩ := h
  exact ⟨a, e, x.tup h⟩
theorem Pr.dp {K : PySem.W.Frag} {H : Hp} {p : Str × Nat} {u : V} (h : Pr K H p u) : Dp K H u (encP p) := by
  obtain ⟨a, rfl, h⟩ := h
  exact .tup h (.cons (.str _) (.cons (.int _) .nil))
theorem prs_dp {K : PySem.W.Frag} {H : Hp} : ∀ {ps : List (Str × Nat)} {us : List V}, All2 (Pr K H) ps us → DpAll K H us (ps.map encP)
  | [], us, h => by rw [show us = [] from h]; exact .nil
  | p :: ps, us, ⟨u, r, e, a, b⟩ => by rw [e]; exact .cons a.dp (prs_dp b)
theorem encP_depth (p : Str × Nat) : (encP p).depth = 1 := by simp [encP, PyData.depth, PyData.depthAll]
theorem encP_can {p : Str × Nat} (h : PyData.strOk p.1 = true) : (encP p).canLay0 = true := by simp [encP, PyData.canLay0, PyData.canLayAll0, h]
theorem encPs_can : ∀ {ps : List (Str × Nat)}, (∀ p ∈ ps, PyData.strOk p.1 = true) → PyData.canLayAll0 (ps.map encP) = true
  | [], _ => rfl
  | p :: ps, h => by
    show (PyData.canLay0 (encP p) && PyData.canLayAll0 (ps.map encP)) = true
    rw [encP_can (h p List.mem_cons_self), encPs_can fun q hq => h q (List.mem_cons_of_mem _ hq)]
    rfl
theorem encPs_depth : ∀ (ps : List (Str × Nat)), PyData.depthAll (ps.map encP) ≤ 1
  | [] => Nat.zero_le _
  | p :: ps => by
    show max (PyData.depth (encP p)) (PyData.depthAll (ps.map encP)) ≤ 1
    rw [encP_depth]
    exact Nat.max_le.mpr ⟨Nat.le_refl _, encPs_depth ps⟩
theorem encP_eq (p q : Str × Nat) : PyData.eqv (encP p) (encP q) = decide (p = q) := by
  obtain ⟨a, b⟩ := p
  obtain ⟨c, d⟩ := q
  simp only [encP, PyData.eqv, PyData.eqvAll, Bool.and_true]
  apply Bool.eq_iff_iff.mpr
  simp
  omega
theorem encPs_any (p : Str × Nat) (ps : List (Str × Nat)) : ((ps.map encP).any fun z => PyData.eqv z (encP p)) = ps.contains p := by
  rw [List.any_map, List.contains_eq_any_beq]
  congr 1
  funext z
  show PyData.eqv (encP z) (encP p) = (p == z)
  rw [encP_eq]
  by_cases e : z = p
  · subst e; simp
  · rw [decide_eq_false e]; exact (beq_eq_false_iff_ne.mpr fun q => e q.symm).symm
def rNotInP (K : PySem.W.Frag) : R2 := fun x y H Q => ∃ (p : Str × Nat) (ps : List (Str × Nat)) (a : Addr) (us : List V), y = .ref a ∧ Pr K H p x ∧ SqL K H a us ∧ All2 (Pr K H) ps us ∧ PyData.strOk p.1 = true ∧ (∀ q ∈ ps, PyData.strOk q.1 = true) ∧ Q (.bl (!ps.contains p)) H
theorem op_notInP {K : PySem.W.Frag} (hK : X.K = K) (hu : X.A.units + 65 < cLine) : OpR X (compareOp .NotIn) (rNotInP K) := by
  subst hK
  intro pins s σ H x y v u Q I rx ry h
  obtain ⟨p, ps, a, us, rfl, hp, hl, hs, ok, oks, q⟩ := h
  refine op_notInD hu pins s σ H x _ v u Q I rx ry ⟨encP p, ps.map encP, hp.dp, .lst hl (prs_dp hs), ?_, ?_, ?_⟩
  · show (PyData.canLay0 (encP p) && decide ((encP p).depth ≤ 64)) = true
    rw [encP_can ok, encP_depth]
    rfl
  · show (PyData.canLayAll0 (ps.map encP) && decide (PyData.depthAll (ps.map encP) + 1 ≤ 64)) = true
    have := encPs_depth ps
    rw [encPs_can oks, decide_eq_true (by omega)]
    rfl
  · rw [encPs_any]
    exact q
/-- sorted(pairs) -/
def rSortedPr (K : PySem.W.Frag) : List V → Hp → VK → Prop := fun vs H Q => ∃ (a : Addr) (us : List V) (ps : List (Str × Nat)), vs = [V.ref a] ∧ SqL K H a us ∧ All2 (Pr K H) ps us ∧ us.length ≤ 1000 ∧
  ∀ (ps' : List (Str × Nat)) (us' : List V) (p : Addr), ps'.Perm ps → All2 (Pr K H) ps' us' → us'.length = us.length → H p = none → Q (.ref p) (upd H p (.lst us'))
theorem all2_zip {α : Type} {R : α → V → Prop} : ∀ {xs : List α} {us : List V}, All2 R xs us → ∃ bs : List (α × V), bs.map (·.1) = xs ∧ bs.map (·.2) = us ∧ ∀ b ∈ bs, R b.1 b.2
  | [], us, h => ⟨[], rfl, by rw [show us = [] from h]; rfl, by simp⟩
  | x :: xs, us, ⟨u, r, e, a, b⟩ => by
    obtain ⟨bs, h1, h2, h3⟩ := all2_zip b
    refine ⟨(x, u) :: bs, by rw [List.map_cons, h1], by rw [List.map_cons, h2, e], fun y hy => ?_⟩
    rcases List.mem_cons.mp hy with z | z
    · rw [z]; exact a
    · exact h3 y z
theorem all2_of {α : Type} {R : α → V → Prop} : ∀ {bs : List (α × V)}, (∀ b ∈ bs, R b.1 b.2) → All2 R (bs.map (·.1)) (bs.map (·.2))
  | [], _ => rfl
  | b :: bs, h => ⟨b.2, _, rfl, h b List.mem_cons_self, all2_of fun y hy => h y (List.mem_cons_of_mem _ hy)⟩
theorem each_vals : ∀ {bs : List ((Str × Nat) × V)} {its : List Value}, Vals (bs.map (·.2)) its → PySem.W.EachIs (fun v (b : (Str × Nat) × V) => RelV b.2 v) its bs
  | [], its, h => by
    cases h
    exact .nil
  | b :: bs, its, h => by
    cases h with
    | cons h1 h2 => exact .cons h1 (each_vals h2)
theorem vals_each : ∀ {bs : List ((Str × Nat) × V)} {its : List Value}, PySem.W.EachIs (fun v (b : (Str × Nat) × V) => RelV b.2 v) its bs → Vals (bs.map (·.2)) its
  | _, _, .nil => .nil
  | _, _, .cons h1 h2 => .cons h1 (vals_each h2)
theorem cr_sortedPr (hu : X.A.units + 65 < cLine) : CallR X (.builtin "sorted") (rSortedPr X.K) := by
  intro pins s σ H vs us0 Q I r h
  obtain ⟨a, us, ps, rfl, hs, hp, hz, q⟩ := h
  obtain ⟨its, rv, hl, _⟩ := I.list hs
  rw [Vals.ref1 r]
  obtain ⟨bs, h1, h2, h3⟩ := all2_zip hp
  have hbl : bs.length = us.length := by rw [← h2, List.length_map]
  have ev : PySem.W.EachIs (fun v (b : (Str × Nat) × V) => RelV b.2 v) its bs := each_vals (by rw [h2]; exact rv)
  have er : PySem.W.EachIs (fun v (b : (Str × Nat) × V) => ∃ as, Reads s.heap v (encP b.1) as) its bs := by
    have all : ∀ {bs : List ((Str × Nat) × V)} {its : List Value}, (∀ b ∈ bs, Pr X.K H b.1 b.2) → PySem.W.EachIs (fun v (b : (Str × Nat) × V) => RelV b.2 v) its bs → PySem.W.EachIs (fun v (b : (Str × Nat) × V) => ∃ as, Reads s.heap v (encP b.1) as) its bs := by
      intro bs its hb e
      induction e with
      | nil => exact .nil
      | cons e1 e2 ih => exact .cons (Dp.reads I _ _ _ (hb _ List.mem_cons_self).dp e1) (ih fun b hb' => hb b (List.mem_cons_of_mem _ hb'))
    exact all h3 ev
  refine PySem.W.sorted_data (enc := fun b : (Str × Nat) × V => encP b.1) hl.isList ev er (PySem.W.AllAlike.of fun _ _ => by simp [PySem.W.alike, PySem.W.alikeAll, encP]) (PySem.W.Sortable.tuples fun _ => ⟨_, _, rfl⟩) (by rw [hbl]; exact small_sz hz) (fun b _ => ?_) fun out ho eo => ?_
  · have := encP_depth b.1
    omega
  · have hperm := List.mergeSort_perm bs (PySem.W.dataLe false fun b : (Str × Nat) × V => encP b.1)
    generalize bs.mergeSort (PySem.W.dataLe false fun b : (Str × Nat) × V => encP b.1) = cs at hperm eo
    have rvo := vals_each eo
    obtain ⟨ep, he'⟩ := PyProof.Rows.sortedAll_at s.heap its (List.toArray out)
    have hcl : (cs.map (·.2)).length = us.length := by rw [List.length_map, hperm.length_eq, hbl]
    have hlen : (cs.map (·.2)).length ≤ sizeLine := by rw [hcl]; exact small_sz hz
    refine ⟨.ref _, upd H (s.heap.objs.size + 1) (.lst (cs.map (·.2))), I.laid (t' := s.toks) (fun _ _ => PyProof.Rows.sortedAll_old) (Nat.le_succ _) ⟨hlen, out, ep, rvo, he'⟩, rfl, ?_⟩
    refine q (cs.map (·.1)) _ _ (by rw [← h1]; exact hperm.map _) (all2_of fun b hb => h3 b (hperm.mem_iff.mp hb)) hcl (I.hok.fresh (Nat.le_succ _))
end
end Say
set_option maxRecDepth 100000
set_option maxHeartbeats 4000000
/-! the law: free variables, symbols -/
namespace Say
open PySem PySem.Spec PyProof.Rows L2 Fm
section
variable {P : Program} {w : World} {K : PySem.W.Frag} {mg : Str → Option Value} {base : Heap} {f : Addr} {B : Nat}
theorem fvs_app : ∀ {a b : List Fm}, fvs (a ++ b) = fvs a ++ fvs b
  | [], b => rfl
  | f :: a, b => by
    show fv f ++ fvs (a ++ b) = (fv f ++ fvs a) ++ fvs b
    rw [fvs_app, List.append_assoc]
theorem sys_app : ∀ {a b : List Fm}, sys (a ++ b) = sys a ++ sys b
  | [], b => rfl
  | f :: a, b => by
    show sy f ++ sys (a ++ b) = (sy f ++ sys a) ++ sys b
    rw [sys_app, List.append_assoc]
theorem contains_no {xs : List Str} {x : Str} : (!xs.contains x) = true ↔ x ∉ xs := by simp
theorem cut_take (xs : List V) (i : Nat) (h : i ≤ xs.length) : cutV xs none (some (0 + ((i : Nat) : Int))) = xs.take i := by
  rw [Int.zero_add]
  unfold cutV
  rw [HT.sIx_none, HT.sIx_nat, List.drop_zero, Nat.sub_zero, Nat.min_eq_left h]
def spFree (K : PySem.W.Frag) (n : Nat) : L2.Sp := fun vs H Q _ => ∃ f v s0 b, vs = [v] ∧ Rp K H f v ∧ Wf s0 b f ∧ dp f ≤ n ∧ pt f ≤ 1000 ∧
  ∀ ys p H', Ext [] H H' → H' p = some (.lst (sv ys)) → H p = none → (∀ z, z ∈ ys ↔ z ∈ fv f) → ys.length ≤ 8 * pt f → Q (.ref p) H'
theorem sc_law_free : FnScope ["_law_f", "_law_loose", "_law_part", "_law_x", "_law_k"] ["_law_f"] (defScope s_law_free) := ⟨rfl, rfl, rfl, by decide +kernel, rfl, by decide +kernel, by decide +kernel⟩
theorem hs_free (T : Tx w K mg) (D : Dn K mg "_law_free" s_law_free f) (h_law_parts : Hs P w K mg base CX0 1 "_law_parts" ["_law_f"] (spParts K)) (h_law_bound_here : Hs P w K mg base CX0 1 "_law_bound_here" ["_law_f"] (spBH K)) (h_law_own : Hs P w K mg base CX0 1 "_law_own" ["_law_f"] (spLOwn K)) :
    ∀ n, Hs P w K mg base CX0 (1 + n + 1) "_law_free" ["_law_f"] (spFree K n) := by
  intro n
  induction n with
  | zero =>
    refine Hs.of D sc_law_free (fun vs H Q E h => ?_) (fun _ _ _ _ _ _ us hl => match us, hl with | [_], _ => rfl) (fun cdv A outer s H vs Q E hr h => ?_)
    · obtain ⟨f, v, s0, b, rfl, _⟩ := h
      rfl
    obtain ⟨f, v, s0, b, rfl, _, _, h, _⟩ := h
    exact absurd (dp_pos f) (by omega)
  | succ n ih =>
    have h_law_free := ih
    refine Hs.of D sc_law_free (fun vs H Q E h => ?_) (fun _ _ _ _ _ _ us hl => match us, hl with | [_], _ => rfl) (fun cdv A outer s H vs Q E hr h => ?_)
    · obtain ⟨f, v, s0, b, rfl, _⟩ := h
      rfl
    obtain ⟨f, v, s0, b, rfl, hf, wf, hn, hpt, q⟩ := h
    refine ⟨_, PSs.nox (pss_cons (ps_set (i := 1) sc_law_free.nd rfl (by first | exact Or.inl rfl | exact Or.inr rfl) (pe_lst pa_nil))
      (pss_cons (ps_for PassesOwn.never rfl (pi_list (pe_h h_law_parts (hr.mono (by omega)) rfl pass0 (pa_cons (pv 0) pa_nil))) (pg_name (i := 2) sc_law_free.nd rfl (by first | exact Or.inl rfl | exact Or.inr rfl)) (pss_one (ps_expr (pe_bm PySem.F.plainAttrs_list PySem.F.slot_list_extend PySem.F.type_list_extend mt_extend (pv 1) (pa_cons (pe_lc (own := [("_law_x", 3)]) (g := gName 3) rfl sc_law_free.nd (pi_list (pe_h h_law_free (hr.mono (by omega)) rfl pass0 (pa_cons (pv 2) pa_nil))) (blkOk_by (own := [("_law_x", 3)]) (N := ["_law_f", "_law_loose", "_law_part", "_law_x", "_law_k"]) (sc := defScope s_law_free) (by decide +kernel)) (fun _ _ _ _ _ => pg_name (i := 3) sc_law_free.nd rfl (Or.inl rfl)) (fun _ _ _ _ _ => pts_one (PW.pt (pw_and (pt_cmpR (op_notIn_seqB (K := K) rfl) (pv 3) (pv 1) rfl) (pw_and1 (pt_cmpR (op_notIn_seqB (K := K) rfl) (pv 3) (pe_h h_law_bound_here (hr.mono (by omega)) rfl pass0 (pa_cons (pv 0) pa_nil)) rfl))))) (fun _ _ _ _ _ => (pv 3))) pa_nil)))))
      (pss_cons (ps_expr (pe_bm PySem.F.plainAttrs_list PySem.F.slot_list_extend PySem.F.type_list_extend mt_extend (pv 1) (pa_cons (pe_lc (own := [("_law_x", 3)]) (g := gName 3) rfl sc_law_free.nd (pi_tup (pe_h h_law_own (hr.mono (by omega)) rfl pass0 (pa_cons (pv 0) pa_nil))) (blkOk_by (own := [("_law_x", 3)]) (N := ["_law_f", "_law_loose", "_law_part", "_law_x", "_law_k"]) (sc := defScope s_law_free) (by decide +kernel)) (fun _ _ _ _ _ => pg_name (i := 3) sc_law_free.nd rfl (Or.inl rfl)) (fun _ _ _ _ _ => pts_one (pt_cmpR (op_notIn_seqB (K := K) rfl) (pv 3) (pv 1) rfl)) (fun _ _ _ _ _ => (pv 3))) pa_nil)))
      (pss_one (ps_ret (pe_callB cr_sortedSA (by rfl) T.zsorted (by decide +kernel) (pa_cons (pe_lc (own := [("_law_k", 4)]) (g := gName 4) rfl sc_law_free.nd (pi_range1 rfl T.zrange (pa_cons (pe_callB call_len_seq (by rfl) T.zlen PySem.boot_len (pa_cons (pv 1) pa_nil)) pa_nil)) (blkOk_by (own := [("_law_k", 4)]) (N := ["_law_f", "_law_loose", "_law_part", "_law_x", "_law_k"]) (sc := defScope s_law_free) (by decide +kernel)) (fun _ _ _ _ _ => pg_name (i := 4) sc_law_free.nd rfl (Or.inl rfl)) (fun _ _ _ _ _ => pts_one (pt_cmpR (op_notIn_seqB (K := K) rfl) (pe_ix (ix_listB (K := K) rfl) (pv 1) (pv 4) (fun _ _ => rfl)) (pe_slice (sl_listB (K := K) rfl) (pv 1) po_none (po_some (pv 4))) rfl)) (fun _ _ _ _ _ => (pe_ix (ix_listB (K := K) rfl) (pv 1) (pv 4) (fun _ _ => rfl)))) pa_nil))))))), ?_⟩
    obtain ⟨w1, w2⟩ := wf_own wf
    have hpk := pts_kids f
    refine ⟨sz 0 rfl, fun lo hlo => ?_⟩
    have e1 : Ext [] H (upd H lo (.lst [])) := .new hlo
    refine ⟨_, rfl, f, _, rfl, Rp.ext e1 f hf, fun p us H2 e2 hp hs hp0 => ?_⟩
    have hplo : p ≠ lo := (ne_of_none (o := .lst []) upd_same hp0).symm
    have hl2 := e2.get0 (upd_same : upd H lo (.lst []) lo = _)
    refine ⟨p, rfl, ⟨_, .inl (.inl hp)⟩, for_partsL (.inl (.inl hp)) hs (S := [lo]) (fun dn σ H' => (∃ o2 o3 o4, σ = [some v, some (.ref lo), o2, o3, o4]) ∧ Ext [lo] H2 H' ∧ ∃ ls : List Str, H' lo = some (.lst (sv ls)) ∧ (∀ z, z ∈ ls ↔ z ∈ fvs dn ∧ z ∉ ownV f) ∧ ls.length ≤ 8 * pts dn) (by simp [hplo])
      ⟨⟨_, _, _, rfl⟩, .refl, [], hl2, by simp [fvs], Nat.zero_le _⟩ (fun dn σ H' z => z.2.1) (fun dn x r u σ H' hk hx ⟨⟨o2, o3, o4, e⟩, e3, ls, g1, g2, g3⟩ => ?_) (fun σ H' ⟨⟨o2, o3, o4, e⟩, e3, ls, g1, g2, g3⟩ => ?_)⟩
    · subst e
      have hxk : x ∈ kids f := by rw [hk]; simp
      have hd := dp_kid hxk
      obtain ⟨b', wfx⟩ := wf_kid wf hxk
      have hps : pts (kids f) = pts dn + (pt x + pts r) := by rw [hk, pts_app]; rfl
      refine ⟨_, rfl, .inl ⟨rfl, _, .inl (.inl g1)⟩, ?_⟩
      refine ⟨_, rfl, x, _, s0, b', rfl, hx, wfx, by omega, by omega, fun ys pf H3 e4 hpf hpf0 hys hyl => ?_⟩
      have g1' := e4.get0 g1
      refine ⟨pf, rfl, ⟨_, .inl (.inl hpf)⟩, fun B hB => ?_⟩
      refine lc_list (xs := sv ys) (fun i H' => ∃ zs : List Str, H' B = some (.lst (sv zs)) ∧ (∀ z, z ∈ zs ↔ z ∈ ys.take i ∧ z ∉ ls ∧ z ∉ ownV f) ∧ zs.length ≤ i ∧ Ext [] H3 H') ⟨[], upd_same, by simp, Nat.le_refl _, .new hB⟩ (fun i H' _ ⟨_, _, _, _, e⟩ => e.lst0 (.inl (.inl hpf))) (fun i y H5 hy ⟨zs, k1, k2, k3, e5⟩ => ?_) (fun H5 ⟨zs, k1, k2, k3, e5⟩ => ?_)
      · rw [List.getElem?_map] at hy
        obtain ⟨y0, hy0, rfl⟩ := Option.map_eq_some_iff.mp hy
        have hi : i < ys.length := by
          rcases Nat.lt_or_ge i ys.length with a | a
          · exact a
          · rw [List.getElem?_eq_none a] at hy0; cases hy0
        have hts := (take_step hy0).1
        have skip : (y0 ∈ ls ∨ y0 ∈ ownV f) → ∀ H6, H6 B = some (.lst (sv zs)) → Ext [] H3 H6 → ∃ zs : List Str, H6 B = some (.lst (sv zs)) ∧ (∀ z, z ∈ zs ↔ z ∈ ys.take (i + 1) ∧ z ∉ ls ∧ z ∉ ownV f) ∧ zs.length ≤ i + 1 ∧ Ext [] H3 H6 := by
          intro hor H6 hB6 e6
          refine ⟨zs, hB6, fun z => ?_, by omega, e6⟩
          rw [k2 z, hts, List.mem_append, List.mem_singleton]
          constructor
          · exact fun h => ⟨.inl h.1, h.2⟩
          · rintro ⟨h | h, h2⟩
            · exact ⟨h, h2⟩
            · rw [h] at h2
              exact (hor.elim (fun c => h2.1 c) fun c => h2.2 c).elim
        refine ⟨rfl, ?_⟩
        refine ⟨_, rfl, _, rfl, lo, sv ls, rfl, .inl (.inl (.inl (e5.get0 g1'))), rfl, flat_sv ls, _, rfl, ifB (fun hb => ?_) (fun hb => ifF rfl ?_)⟩
        · have hb : (!inV (.str y0) (sv ls)) = true := hb
          rw [inV_sv] at hb
          have hnl := contains_no.mp hb
          refine ⟨_, rfl, _, rfl, f, _, rfl, Rp.ext (e1.any.trans (e2.any.trans (e3.trans ((e4.trans e5).any (T := [lo]))))) f hf, fun pb H6 e6 hpb => ?_⟩
          refine ⟨pb, sv (ownV f), rfl, .inr hpb, rfl, flat_sv _, _, rfl, ifB (fun hb2 => ?_) (fun hb2 => ?_)⟩
          · have hb2 : (!inV (.str y0) (sv (ownV f))) = true := hb2
            rw [inV_sv] at hb2
            have hno := contains_no.mp hb2
            have hB6 := e6.get0 k1
            refine ⟨_, rfl, _, hB6, big_sz (by rw [List.length_map]; omega), zs ++ [y0], by rw [upd_same, sv_snoc], fun z => ?_, by simp; omega, (e5.trans e6).mut hB⟩
            rw [List.mem_append, List.mem_singleton, k2 z, hts, List.mem_append, List.mem_singleton]
            constructor
            · rintro (h | h)
              · exact ⟨.inl h.1, h.2⟩
              · rw [h]; exact ⟨.inr rfl, hnl, hno⟩
            · rintro ⟨h | h, h2⟩
              · exact .inl ⟨h, h2⟩
              · exact .inr h
          · have hb2 : (!inV (.str y0) (sv (ownV f))) = false := hb2
            rw [inV_sv] at hb2
            exact skip (.inr (by simpa using hb2)) H6 (e6.get0 k1) (e5.trans e6)
        · have hb : (!inV (.str y0) (sv ls)) = false := hb
          rw [inV_sv] at hb
          exact skip (.inl (by simpa using hb)) H5 k1 e5
      · rw [List.length_map] at k3 k2
        rw [List.take_length] at k2
        have g5 := e5.get0 g1'
        refine ⟨lo, B, _, _, rfl, rfl, g5, k1, small_sz_m (by rw [List.length_map, List.length_map]; omega), ?_⟩
        refine ⟨⟨_, _, _, rfl⟩, ((e3.trans ((e4.trans e5).any (T := [lo]))).put (by simp) g5 rfl), ls ++ zs, by rw [upd_same]; exact congrArg (fun z => some (HO.lst z)) List.map_append.symm, fun z => ?_, ?_⟩
        · rw [List.mem_append, g2 z, k2 z, hys z, fvs_app, List.mem_append]
          simp only [fvs, List.append_nil]
          constructor
          · rintro (h | h)
            · exact ⟨.inl h.1, h.2⟩
            · exact ⟨.inr h.1, h.2.2⟩
          · rintro ⟨h | h, h2⟩
            · exact .inl ⟨h, h2⟩
            · by_cases hz : z ∈ ls
              · exact .inl ((g2 z).mp hz)
              · exact .inr ⟨h, hz, h2⟩
        · rw [List.length_append, pts_app]
          show ls.length + zs.length ≤ 8 * (pts dn + (pt x + 0))
          omega
    · subst e
      have E3 : Ext [] H H' := (e1.trans e2).late e3 (by simpa using hlo)
      refine ⟨_, rfl, .inl ⟨rfl, _, .inl (.inl g1)⟩, ?_⟩
      refine ⟨_, rfl, f, _, rfl, Rp.ext E3 f hf, fun pa H4 e4 hpa => ?_⟩
      have g1' := e4.get0 g1
      refine ⟨pa, rfl, ⟨_, hpa⟩, fun B hB => ?_⟩
      refine lc_tup (xs := sv (ownA f)) (fun i H' => ∃ zs : List Str, H' B = some (.lst (sv zs)) ∧ (∀ z, z ∈ zs ↔ z ∈ (ownA f).take i ∧ z ∉ ls) ∧ zs.length ≤ i ∧ Ext [] H4 H') ⟨[], upd_same, by simp, Nat.le_refl _, .new hB⟩ (fun i H' _ ⟨_, _, _, _, e⟩ => e.tup hpa) (fun i y H5 hy ⟨zs, k1, k2, k3, e5⟩ => ?_) (fun H5 ⟨zs, k1, k2, k3, e5⟩ => ?_)
      · rw [List.getElem?_map] at hy
        obtain ⟨y0, hy0, rfl⟩ := Option.map_eq_some_iff.mp hy
        have hi : i < (ownA f).length := by
          rcases Nat.lt_or_ge i (ownA f).length with a | a
          · exact a
          · rw [List.getElem?_eq_none a] at hy0; cases hy0
        have hts := (take_step hy0).1
        refine ⟨rfl, ?_⟩
        refine ⟨_, rfl, _, rfl, lo, sv ls, rfl, .inl (.inl (.inl (e5.get0 g1'))), rfl, flat_sv ls, _, rfl, ifB (fun hb => ?_) (fun hb => ?_)⟩
        · have hb : (!inV (.str y0) (sv ls)) = true := hb
          rw [inV_sv] at hb
          have hnl := contains_no.mp hb
          refine ⟨_, rfl, _, k1, big_sz (by rw [List.length_map]; omega), zs ++ [y0], by rw [upd_same, sv_snoc], fun z => ?_, by simp; omega, e5.mut hB⟩
          rw [List.mem_append, List.mem_singleton, k2 z, hts, List.mem_append, List.mem_singleton]
          constructor
          · rintro (h | h)
            · exact ⟨.inl h.1, h.2⟩
            · rw [h]; exact ⟨.inr rfl, hnl⟩
          · rintro ⟨h | h, h2⟩
            · exact .inl ⟨h, h2⟩
            · exact .inr h
        · have hb : (!inV (.str y0) (sv ls)) = false := hb
          rw [inV_sv] at hb
          have hin : y0 ∈ ls := by simpa using hb
          refine ⟨zs, k1, fun z => ?_, by omega, e5⟩
          rw [k2 z, hts, List.mem_append, List.mem_singleton]
          constructor
          · exact fun h => ⟨.inl h.1, h.2⟩
          · rintro ⟨h | h, h2⟩
            · exact ⟨h, h2⟩
            · rw [h] at h2
              exact (h2 hin).elim
      · rw [List.length_map] at k3 k2
        rw [List.take_length] at k2
        have g5 := e5.get0 g1'
        refine ⟨lo, B, _, _, rfl, rfl, g5, k1, small_sz_m (by rw [List.length_map, List.length_map]; omega), ?_⟩
        have E5 := E3.trans (e4.trans e5)
        have E6 : Ext [] H (upd H5 lo (.lst (sv ls ++ sv zs))) := E5.mut hlo
        have hap : sv ls ++ sv zs = sv (ls ++ zs) := List.map_append.symm
        have g6 : upd H5 lo (.lst (sv ls ++ sv zs)) lo = some (.lst (sv (ls ++ zs))) := by rw [upd_same, hap]
        have hmem : ∀ z, z ∈ ls ++ zs ↔ z ∈ fv f := fun z => by
          rw [List.mem_append, g2 z, k2 z, fv_kids f z]
          constructor
          · rintro (h | h)
            · exact .inl h
            · exact .inr h.1
          · rintro (h | h)
            · exact .inl h
            · by_cases hz : z ∈ ls
              · exact .inl ((g2 z).mp hz)
              · exact .inr ⟨h, hz⟩
        have hlen : (ls ++ zs).length ≤ 8 * pt f := by rw [List.length_append]; omega
        generalize upd H5 lo (.lst (sv ls ++ sv zs)) = H6 at E6 g6 ⊢
        generalize ls ++ zs = ms at hmem hlen g6
        have hml : (sv ms).length = ms.length := List.length_map _
        refine ⟨_, rfl, lo, _, rfl, .inl (.inl (.inl g6)), ((sv ms).length : Nat), rfl, by omega, by omega, fun B2 hB2 => ?_⟩
        refine lc_range (n := (sv ms).length) (fun i H' => ∃ zs : List Str, H' B2 = some (.lst (sv zs)) ∧ (∀ z, z ∈ zs ↔ z ∈ ms.take i) ∧ zs.length ≤ i ∧ Ext [] H6 H') ⟨[], upd_same, by simp, Nat.le_refl _, .new hB2⟩ (fun i H7 hi ⟨zs, k1, k2, k3, e7⟩ => ?_) (fun H7 ⟨zs, k1, k2, k3, e7⟩ => ?_)
        · have him : i < ms.length := by omega
          have hy0 : ms[i]? = some ms[i] := List.getElem?_eq_getElem him
          have hyv : (sv ms)[i]? = some (.str ms[i]) := by rw [List.getElem?_map, hy0]; rfl
          have hat : atI (sv ms) (0 + ((i : Nat) : Int)) = some (.str ms[i]) := by rw [Int.zero_add]; exact atI_nat hyv
          have hts := (take_step hy0).1
          refine ⟨rfl, ?_⟩
          refine ⟨_, rfl, _, rfl, _, _, _, _, rfl, rfl, .inl (.inl (e7.get0 g6)), hat, ?_⟩
          refine ⟨_, rfl, _, rfl, _, rfl, lo, _, rfl, .inl (.inl (e7.get0 g6)), fun p8 hp8 => ?_⟩
          have e8 : Ext [] H7 (upd H7 p8 (.lst (cutV (sv ms) none (some (0 + ((i : Nat) : Int)))))) := .new hp8
          have hcut : cutV (sv ms) none (some (0 + ((i : Nat) : Int))) = sv (ms.take i) := by
            rw [cut_take _ _ (by omega)]
            exact List.map_take.symm
          have h8 : upd H7 p8 (.lst (cutV (sv ms) none (some (0 + ((i : Nat) : Int))))) p8 = some (.lst (sv (ms.take i))) := by rw [upd_same, hcut]
          refine ⟨p8, _, rfl, .inl (.inl (.inl h8)), rfl, flat_sv _, _, rfl, ifB (fun hb => ?_) (fun hb => ?_)⟩
          · have hB8 := e8.get0 k1
            refine ⟨_, rfl, _, rfl, _, _, _, _, rfl, rfl, .inl (.inl ((e7.trans e8).get0 g6)), hat, _, hB8, big_sz (by rw [List.length_map]; omega), zs ++ [ms[i]], by rw [upd_same, sv_snoc], fun z => ?_, by simp; omega, (e7.trans e8).mut hB2⟩
            rw [List.mem_append, k2 z, hts, List.mem_append]
          · have hb : (!inV (.str ms[i]) (sv (ms.take i))) = false := hb
            rw [inV_sv] at hb
            have hin : ms[i] ∈ ms.take i := by simpa using hb
            refine ⟨zs, e8.get0 k1, fun z => ?_, by omega, e7.trans e8⟩
            rw [k2 z, hts, List.mem_append, List.mem_singleton]
            constructor
            · exact .inl
            · rintro (h | h)
              · exact h
              · rw [h]; exact hin
        · rw [hml] at k2 k3
          rw [List.take_length] at k2
          refine ⟨B2, zs, rfl, .inl (.inl k1), by omega, fun ys p9 hperm hp9 => ?_⟩
          refine q ys p9 _ (E6.trans (e7.add hp9)) upd_same ((E6.trans e7).free p9 hp9) (fun z => by rw [hperm.mem_iff, k2 z, hmem z]) ?_
          rw [hperm.length_eq]
          omega
def spSym (K : PySem.W.Frag) (n : Nat) : L2.Sp := fun vs H Q _ => ∃ f v s0 b, vs = [v] ∧ Rp K H f v ∧ Wf s0 b f ∧ fo f = true ∧ dp f ≤ n ∧ pt f ≤ 1000 ∧ (∀ x ∈ sy f, PyData.strOk x.1 = true) ∧
  ∀ ps us p H', Ext [] H H' → H' p = some (.lst us) → All2 (Pr K H') ps us → H p = none → (∀ z, z ∈ ps ↔ z ∈ sy f) → us.length ≤ pt f → Q (.ref p) H'
theorem sy_kids {f : Fm} (h : fo f = true) (hr : ∀ nm args, f ≠ rel nm args) : sy f = sys (kids f) := by
  cases f with
  | rel nm args => exact absurd rfl (hr nm args)
  | cmp _ _ _ => rfl
  | neg g => simp [sy, sys, kids]
  | jn c fs => rfl
  | qu c vs g => simp [sy, sys, kids]
  | fx l m vs g args => cases h
  | tc vs g args => cases h
  | gs m ar g => cases h
theorem sc_law_symbols : FnScope ["_law_f", "_law_found", "_law_part", "_law_one"] ["_law_f"] (defScope s_law_symbols) := ⟨rfl, rfl, rfl, by decide +kernel, rfl, by decide +kernel, by decide +kernel⟩
theorem hs_symbols (T : Tx w K mg) (D : Dn K mg "_law_symbols" s_law_symbols f) (h_law_parts : Hs P w K mg base CX0 1 "_law_parts" ["_law_f"] (spParts K)) :
    ∀ n, Hs P w K mg base CX0 (1 + n + 1) "_law_symbols" ["_law_f"] (spSym K n) := by
  intro n
  induction n with
  | zero =>
    refine Hs.of D sc_law_symbols (fun vs H Q E h => ?_) (fun _ _ _ _ _ _ us hl => match us, hl with | [_], _ => rfl) (fun cdv A outer s H vs Q E hr h => ?_)
    · obtain ⟨f, v, s0, b, rfl, _⟩ := h
      rfl
    obtain ⟨f, v, s0, b, rfl, _, _, _, h, _⟩ := h
    exact absurd (dp_pos f) (by omega)
  | succ n ih =>
    have h_law_symbols := ih
    refine Hs.of D sc_law_symbols (fun vs H Q E h => ?_) (fun _ _ _ _ _ _ us hl => match us, hl with | [_], _ => rfl) (fun cdv A outer s H vs Q E hr h => ?_)
    · obtain ⟨f, v, s0, b, rfl, _⟩ := h
      rfl
    obtain ⟨f, v, s0, b, rfl, hf, wf, hfo, hn, hpt, hok, q⟩ := h
    refine ⟨_, PSs.nox (pss_cons (ps_set (i := 1) sc_law_symbols.nd rfl (by first | exact Or.inl rfl | exact Or.inr rfl) (pe_lst pa_nil))
      (pss_cons (ps_if (pt_cmpR op_eq (pe_ix ix_tup (pv 0) pe_int (fun _ _ => rfl)) pe_str (nomark _)) (pss_one (ps_expr (pe_bm PySem.F.plainAttrs_list PySem.F.slot_list_append PySem.F.type_list_append mt_append (pv 1) (pa_cons (pe_tup (pa_cons (pe_ix ix_tup (pv 0) pe_int (fun _ _ => rfl)) (pa_cons (pe_callB call_len_seq (by rfl) T.zlen PySem.boot_len (pa_cons (pe_ix ix_tup (pv 0) pe_int (fun _ _ => rfl)) pa_nil)) pa_nil))) pa_nil)))) pss_nil)
      (pss_cons (ps_for PassesOwn.never rfl (pi_list (pe_h h_law_parts (hr.mono (by omega)) rfl pass0 (pa_cons (pv 0) pa_nil))) (pg_name (i := 2) sc_law_symbols.nd rfl (by first | exact Or.inl rfl | exact Or.inr rfl)) (pss_one (ps_for PassesOwn.never rfl (pi_list (pe_h h_law_symbols (hr.mono (by omega)) rfl pass0 (pa_cons (pv 2) pa_nil))) (pg_name (i := 3) sc_law_symbols.nd rfl (by first | exact Or.inl rfl | exact Or.inr rfl)) (pss_one (ps_if (PW.pt (pw_and (pt_cmpR (op_notInP (K := K) rfl (hu65 hr)) (pv 3) (pv 1) rfl) (pw_and1 (pt_not (PW.pt (pw_and (pt_cmpR op_in_seq (pe_ix ix_tup (pv 0) pe_int (fun _ _ => rfl)) (pe_lst (pa_cons pe_str (pa_cons pe_str (pa_cons pe_str pa_nil)))) rfl) (pw_and1 (pt_cmpR op_eq (pe_ix ix_tup (pv 3) pe_int (fun _ _ => rfl)) (pe_ix ix_tup (pv 0) pe_int (fun _ _ => rfl)) (nomark _))))))))) (pss_one (ps_expr (pe_bm PySem.F.plainAttrs_list PySem.F.slot_list_append PySem.F.type_list_append mt_append (pv 1) (pa_cons (pv 3) pa_nil)))) pss_nil)))))
      (pss_one (ps_ret (pe_callB (cr_sortedPr (hu65 hr)) (by rfl) T.zsorted (by decide +kernel) (pa_cons (pv 1) pa_nil))))))), ?_⟩
    have hpk := pts_kids f
    have hf0 := hf
    obtain ⟨a, xs, rfl, hat⟩ := Rp.at f hf
    refine ⟨sz 0 rfl, fun lo hlo => ?_⟩
    have e1 : Ext [] H (upd H lo (.lst [])) := .new hlo
    by_cases hrel : ∃ m args, f = rel m args
    · obtain ⟨m, args, rfl⟩ := hrel
      obtain ⟨a', b', e', k1, k2⟩ := hf0
      cases e'
      have k1' := e1.tup k1
      refine rd_eqw rfl (e1.tup hat) "rel" 0 (by decide +kernel) (ifT rfl ?_)
      refine ⟨_, rfl, .inl ⟨rfl, _, .inl (.inl upd_same)⟩, _, rfl, _, _, _, _, rfl, rfl, k1', rfl, _, rfl, _, _, _, _, rfl, rfl, k1', rfl, _, _, rfl, .inr (e1.tup k2), sz 2 rfl, fun p3 hp3 => ?_⟩
      have e3 : Ext [] (upd H lo (.lst [])) (upd (upd H lo (.lst [])) p3 (.tup [.str m, .int ((sv args).length : Nat)])) := .new hp3
      have hl3 := e3.get0 (upd_same : upd H lo (.lst []) lo = _)
      refine ⟨lo, _, _, rfl, rfl, hl3, big_sz (Nat.zero_le _), ?_⟩
      have E4 : Ext [] H (upd (upd (upd H lo (.lst [])) p3 (.tup [.str m, .int ((sv args).length : Nat)])) lo (.lst ([] ++ [.ref p3]))) := (e1.trans e3).mut hlo
      have g4 : upd (upd (upd H lo (.lst [])) p3 (.tup [.str m, .int ((sv args).length : Nat)])) lo (.lst ([] ++ [.ref p3])) lo = some (.lst [.ref p3]) := upd_same
      have x4 : Ext [lo] (upd (upd H lo (.lst [])) p3 (.tup [.str m, .int ((sv args).length : Nat)])) (upd (upd (upd H lo (.lst [])) p3 (.tup [.str m, .int ((sv args).length : Nat)])) lo (.lst ([] ++ [.ref p3]))) := Ext.put .refl (by simp) hl3 rfl
      have hp4 : SqT K (upd (upd (upd H lo (.lst [])) p3 (.tup [.str m, .int ((sv args).length : Nat)])) lo (.lst ([] ++ [.ref p3]))) p3 [.str m, .int ((sv args).length : Nat)] := x4.tup (SqT.of upd_same)
      have hR := Rp.ext E4 (rel m args) ⟨a, b', rfl, k1, k2⟩
      refine ⟨_, rfl, rel m args, _, rfl, hR, fun p us H5 e5 hp hs hp0 => ⟨p, rfl, ⟨_, .inl (.inl hp)⟩, ?_⟩⟩
      have hus : us = [] := hs
      subst hus
      refine for_list (xs := []) (fun i σ H' => (∃ o2 o3, σ = [some (.ref a), some (.ref lo), o2, o3]) ∧ H' = H5) ⟨⟨_, _, rfl⟩, rfl⟩ (fun i σ H' _ z => by rw [z.2]; exact .inl (.inl hp)) (fun i x σ H' hx z => by simp at hx) (fun σ H' ⟨⟨o2, o3, e⟩, eH⟩ => ?_)
      subst e eH
      have hp5 := e5.tup hp4
      rw [show (sv args).length = args.length from List.length_map _] at hp5
      refine ⟨_, rfl, lo, _, [(m, args.length)], rfl, .inl (.inl (e5.get0 g4)), All2.one ⟨p3, rfl, hp5⟩, by show 1 ≤ 1000; decide, fun ps' us' p6 hperm hal hul hp6 => ?_⟩
      have e6 : Ext [] H' (upd H' p6 (.lst us')) := .new hp6
      refine q ps' us' p6 _ (E4.trans (e5.trans e6)) upd_same (hal.mono fun p u => Pr.ext e6 p u) ((E4.trans e5).free p6 hp6) (fun z => by rw [hperm.mem_iff]; exact Iff.rfl) ?_
      rw [hul]
      exact (by decide : 1 ≤ 1)
    · have hrel : ∀ m args, f ≠ rel m args := fun m args e => hrel ⟨m, args, e⟩
      have hw0 : (wk f == 0) = false := by
        rw [← wd_eq (f := f) "rel" 0 (by decide +kernel)]
        exact wd_rel' hrel
      have hwq : ([8, 9, 11] : List Nat).contains (wk f) = false := by
        cases f with
        | cmp c _ _ => cases c <;> rfl
        | jn c _ => cases c <;> rfl
        | qu c _ _ => cases c <;> rfl
        | rel _ _ => rfl
        | neg _ => rfl
        | fx l m vs g args => cases hfo
        | tc vs g args => cases hfo
        | gs m ar g => cases hfo
      refine rd_eqw rfl (e1.tup hat) "rel" 0 (by decide +kernel) (ifF hw0 ?_)
      refine ⟨_, rfl, f, _, rfl, Rp.ext e1 f hf0, fun p us H2 e2 hp hs hp0 => ?_⟩
      have hplo : p ≠ lo := (ne_of_none (o := .lst []) upd_same hp0).symm
      have hl2 := e2.get0 (upd_same : upd H lo (.lst []) lo = _)
      have hsk := sy_kids hfo hrel
      refine ⟨p, rfl, ⟨_, .inl (.inl hp)⟩, for_partsL (.inl (.inl hp)) hs (S := [lo]) (fun dn σ H' => (∃ o2 o3, σ = [some (.ref a), some (.ref lo), o2, o3]) ∧ Ext [lo] H2 H' ∧ ∃ ps us, H' lo = some (.lst us) ∧ All2 (Pr K H') ps us ∧ (∀ z, z ∈ ps ↔ z ∈ sys dn) ∧ us.length ≤ pts dn) (by simp [hplo])
        ⟨⟨_, _, rfl⟩, .refl, [], [], hl2, rfl, fun z => Iff.rfl, Nat.zero_le _⟩ (fun dn σ H' z => z.2.1) (fun dn x r u σ H' hk hx ⟨⟨o2, o3, e⟩, e3, ps, us1, g1, g2, g3, g4⟩ => ?_) (fun σ H' ⟨⟨o2, o3, e⟩, e3, ps, us1, g1, g2, g3, g4⟩ => ?_)⟩
      · subst e
        have hxk : x ∈ kids f := by rw [hk]; simp
        have hd := dp_kid hxk
        obtain ⟨b', wfx⟩ := wf_kid wf hxk
        have hps : pts (kids f) = pts dn + (pt x + pts r) := by rw [hk, pts_app]; rfl
        have hsyx : ∀ z ∈ sy x, z ∈ sy f := fun z hz => by rw [hsk]; exact mem_sys.mpr ⟨x, hxk, hz⟩
        have hsyd : ∀ z ∈ sys dn, z ∈ sy f := fun z hz => by
          obtain ⟨g, hg, hz⟩ := mem_sys.mp hz
          rw [hsk]
          exact mem_sys.mpr ⟨g, by rw [hk]; exact List.mem_append_left _ hg, hz⟩
        refine ⟨_, rfl, x, _, s0, b', rfl, hx, wfx, fo_kid hfo hxk, by omega, by omega, fun z hz => hok z (hsyx z hz), fun ps2 us2 p2 H3 e4 hp2 hal2 hp20 hm2 hl2' => ?_⟩
        have hne : p2 ≠ lo := (ne_of_none g1 hp20).symm
        have E2 : Ext [] H H2 := e1.trans e2
        refine ⟨p2, rfl, ⟨_, .inl (.inl hp2)⟩, for_list (xs := us2) (fun i σ H' => (∃ o3, σ = [some (.ref a), some (.ref lo), some u, o3]) ∧ Ext [lo] H3 H' ∧ ∃ ps us, H' lo = some (.lst us) ∧ All2 (Pr K H') ps us ∧ (∀ z, z ∈ ps ↔ z ∈ sys dn ∨ z ∈ ps2.take i) ∧ us.length ≤ pts dn + i) ⟨⟨_, rfl⟩, .refl, ps, us1, e4.get0 g1, g2.mono fun p u => Pr.ext e4 p u, fun z => by simp [g3 z], by omega⟩
          (fun i σ H' _ z => z.2.1.lst (.inl (.inl hp2)) (by simp [hne])) (fun i y σ H5 hy ⟨⟨o3, e⟩, e5, ps3, us3, k1, k2, k3, k4⟩ => ?_) (fun σ H5 ⟨⟨o3, e⟩, e5, ps3, us3, k1, k2, k3, k4⟩ => ?_)⟩
        · subst e
          obtain ⟨z0, hz0, hzr⟩ := hal2.get hy
          have hzr := Pr.ext e5 _ _ hzr
          have hzm : z0 ∈ sy x := (hm2 z0).mp (List.mem_of_getElem? hz0)
          have hi : i < us2.length := by
            rcases Nat.lt_or_ge i us2.length with a | a
            · exact a
            · rw [List.getElem?_eq_none a] at hy; cases hy
          have hts := (take_step hz0).1
          have hok3 : ∀ z ∈ ps3, PyData.strOk z.1 = true := fun z hz => by
            rcases (k3 z).mp hz with h | h
            · exact hok z (hsyd z h)
            · exact hok z (hsyx z ((hm2 z).mp (List.mem_of_mem_take h)))
          refine ⟨_, rfl, _, rfl, z0, ps3, lo, us3, rfl, hzr, .inl (.inl k1), k2, hok z0 (hsyx z0 hzm), hok3, _, rfl, ifB (fun hb => ?_) (fun hb => ifF rfl ?_)⟩
          · have hat5 := (E2.any (T := [lo])).trans (e3.trans (e4.any.trans e5)) |>.tup hat
            refine rd_inw rfl hat5 ["lfp", "pfp", "guess"] [8, 9, 11] (by decide +kernel) (by decide) fun H6 e6 => ?_
            refine ifF hwq (ifT rfl ?_)
            have k1' := e6.get0 k1
            refine ⟨_, rfl, .inl ⟨rfl, _, .inl (.inl k1')⟩, _, rfl, lo, _, _, rfl, rfl, k1', big_sz (by omega), ?_⟩
            have x7 : Ext [lo] H6 (upd H6 lo (.lst (us3 ++ [y]))) := Ext.put .refl (by simp) k1' rfl
            refine ⟨⟨_, rfl⟩, e5.trans ((e6.any (T := [lo])).trans x7), ps3 ++ [z0], us3 ++ [y], upd_same, ((k2.mono fun p u => Pr.ext e6 p u).app (All2.one (Pr.ext e6 _ _ hzr))).mono fun p u => Pr.ext x7 p u, fun z => ?_, by simp; omega⟩
            rw [List.mem_append, List.mem_singleton, k3 z, hts, List.mem_append, List.mem_singleton, or_assoc]
          · have hin : z0 ∈ ps3 := by simpa using hb
            refine ⟨⟨_, rfl⟩, e5, ps3, us3, k1, k2, fun z => ?_, by omega⟩
            rw [k3 z, hts, List.mem_append, List.mem_singleton]
            constructor
            · rintro (h | h)
              · exact .inl h
              · exact .inr (.inl h)
            · rintro (h | h | h)
              · exact .inl h
              · exact .inr h
              · rw [h]; exact (k3 z0).mp hin
        · subst e
          rw [hal2.length, List.take_length] at k3
          refine ⟨⟨_, _, rfl⟩, e3.trans ((e4.any (T := [lo])).trans e5), ps3, us3, k1, k2, fun z => ?_, ?_⟩
          · rw [k3 z, hm2 z, sys_app, List.mem_append]
            simp [sys]
          · rw [pts_app]
            show us3.length ≤ pts dn + (pt x + 0)
            omega
      · subst e
        have E3 : Ext [] H H' := (e1.trans e2).late e3 (by simpa using hlo)
        refine ⟨_, rfl, lo, us1, ps, rfl, .inl (.inl g1), g2, by omega, fun ps' us' p6 hperm hal hul hp6 => ?_⟩
        have e6 : Ext [] H' (upd H' p6 (.lst us')) := .new hp6
        refine q ps' us' p6 _ (E3.trans e6) upd_same (hal.mono fun p u => Pr.ext e6 p u) (E3.free p6 hp6) (fun z => by rw [hperm.mem_iff, g3 z, hsk]) ?_
        rw [hul]
        omega
end
end Say
set_option maxRecDepth 100000
set_option maxHeartbeats 4000000
/-! rows of numbers -/
namespace Say
open PySem PySem.Spec PyProof.Rows L2
section
variable {X : Cx}
theorem ix_or : IxR X (fun x y H Q => rIxT X.K x y H Q ∨ rIxL X.K x y H Q) := by
  intro value slice pins s σ H x y v u Q I rx ry h hs
  rcases h with h | h
  · exact ix_tup value slice pins s σ H x y v u Q I rx ry h hs
  · exact ix_list value slice pins s σ H x y v u Q I rx ry h hs
theorem op_cat1B {K : PySem.W.Frag} (hK : X.K = K) : OpR X (binaryOp .Add) (fun x y H Q => ∃ a b xs ys, x = .ref a ∧ y = .ref b ∧ SqT K H a xs ∧ SqT K H b ys ∧ xs.length + ys.length ≤ 1000 ∧ ∀ p H', Ext [] H H' → SqT K H' p (xs ++ ys) → Q (.ref p) H') := by
  subst hK
  exact op_cat1
theorem pg_tupB {K : PySem.W.Frag} (hK : X.K = K) {es : List Expr} {k : Nat} {t : TGs} {n : Nat} {pos : Pos} (hc : X.calm = true) (h : PGs X es t)
    (hn : (assignEach es X.env).length = n := by rfl) (hst : (assignEach es X.env).findIdx? (·.1) = none := by rfl) : PG X (.Tuple es k pos) (gTup K n t) := by
  subst hK
  exact pg_tup hc h hn hst
def Rw (K : PySem.W.Frag) (H : Hp) (row : List Int) (u : V) : Prop := ∃ a, u = .ref a ∧ SqT K H a (row.map V.int)
def encR (row : List Int) : PyData := .tuple (row.map .int)
theorem Rw.ext {K : PySem.W.Frag} {S : List Addr} {H H1 : Hp} (x : Ext S H H1) (row : List Int) (u : V) (h : Rw K H row u) : Rw K H1 row u := by
  obtain ⟨a, e, h⟩ := h
  exact ⟨a, e, x.tup h⟩
theorem ints_dp {K : PySem.W.Frag} {H : Hp} : ∀ (row : List Int), DpAll K H (row.map V.int) (row.map .int)
  | [] => .nil
  | x :: r => .cons (.int x) (ints_dp r)
theorem Rw.dp {K : PySem.W.Frag} {H : Hp} {row : List Int} {u : V} (h : Rw K H row u) : Dp K H u (encR row) := by
  obtain ⟨a, rfl, h⟩ := h
  exact .tup h (ints_dp row)
theorem rws_dp {K : PySem.W.Frag} {H : Hp} : ∀ {rows : List (List Int)} {us : List V}, All2 (Rw K H) rows us → DpAll K H us (rows.map encR)
  | [], us, h => by rw [show us = [] from h]; exact .nil
  | p :: ps, us, ⟨u, r, e, a, b⟩ => by rw [e]; exact .cons a.dp (rws_dp b)
theorem encR_depth (row : List Int) : (encR row).depth = 1 := by
  show PyData.depthAll (row.map .int) + 1 = 1
  rw [PySem.W.depth_ints]
theorem ints_can : ∀ (row : List Int), PyData.canLayAll0 (row.map .int) = true
  | [] => rfl
  | x :: r => by
    show (PyData.canLay0 (.int x) && PyData.canLayAll0 (r.map .int)) = true
    rw [ints_can r]
    simp [PyData.canLay0]
theorem encR_can (row : List Int) : (encR row).canLay0 = true := ints_can row
theorem encRs_can : ∀ (rows : List (List Int)), PyData.canLayAll0 (rows.map encR) = true
  | [] => rfl
  | p :: ps => by
    show (PyData.canLay0 (encR p) && PyData.canLayAll0 (ps.map encR)) = true
    rw [encR_can, encRs_can ps]
    rfl
theorem encRs_depth : ∀ (rows : List (List Int)), PyData.depthAll (rows.map encR) ≤ 1
  | [] => Nat.zero_le _
  | p :: ps => by
    show max (PyData.depth (encR p)) (PyData.depthAll (ps.map encR)) ≤ 1
    rw [encR_depth]
    exact Nat.max_le.mpr ⟨Nat.le_refl _, encRs_depth ps⟩
theorem ints_eqv : ∀ (p q : List Int), PyData.eqvAll (p.map .int) (q.map .int) = decide (p = q)
  | [], [] => rfl
  | [], y :: q => rfl
  | x :: p, [] => rfl
  | x :: p, y :: q => by
    show (PyData.eqv (.int x) (.int y) && PyData.eqvAll (p.map .int) (q.map .int)) = _
    rw [ints_eqv p q]
    simp only [PyData.eqv]
    apply Bool.eq_iff_iff.mpr
    simp
theorem encR_eq (p q : List Int) : PyData.eqv (encR p) (encR q) = decide (p = q) := ints_eqv p q
theorem encRs_any (p : List Int) (ps : List (List Int)) : ((ps.map encR).any fun z => PyData.eqv z (encR p)) = decide (p ∈ ps) := by
  apply Bool.eq_iff_iff.mpr
  rw [List.any_eq_true, decide_eq_true_eq]
  constructor
  · rintro ⟨z, hz, e⟩
    obtain ⟨y, hy, rfl⟩ := List.mem_map.mp hz
    have e : PyData.eqv (encR y) (encR p) = true := e
    rw [encR_eq] at e
    rw [← of_decide_eq_true e]
    exact hy
  · intro h
    refine ⟨encR p, List.mem_map.mpr ⟨p, h, rfl⟩, ?_⟩
    show PyData.eqv (encR p) (encR p) = true
    rw [encR_eq]
    simp
def rInRw (K : PySem.W.Frag) : R2 := fun x y H Q => ∃ (p : List Int) (ps : List (List Int)) (a : Addr) (us : List V), y = .ref a ∧ Rw K H p x ∧ SqL K H a us ∧ All2 (Rw K H) ps us ∧ Q (.bl (decide (p ∈ ps))) H
theorem op_inRw {K : PySem.W.Frag} (hK : X.K = K) (hu : X.A.units + 65 < cLine) : OpR X (compareOp .In) (rInRw K) := by
  subst hK
  intro pins s σ H x y v u Q I rx ry h
  obtain ⟨p, ps, a, us, rfl, hp, hl, hs, q⟩ := h
  refine op_inD hu pins s σ H x _ v u Q I rx ry ⟨encR p, ps.map encR, hp.dp, .lst hl (rws_dp hs), ?_, ?_, ?_⟩
  · show (PyData.canLay0 (encR p) && decide ((encR p).depth ≤ 64)) = true
    rw [encR_can, encR_depth]
    rfl
  · show (PyData.canLayAll0 (ps.map encR) && decide (PyData.depthAll (ps.map encR) + 1 ≤ 64)) = true
    have := encRs_depth ps
    rw [encRs_can, decide_eq_true (by omega)]
    rfl
  · rw [encRs_any]
    exact q
end
end Say
set_option maxRecDepth 100000
set_option maxHeartbeats 4000000
/-! the law: all tuples; values with a row -/
namespace Say
open PySem PySem.Spec PyProof.Rows L2 Fm
section
variable {P : Program} {w : World} {K : PySem.W.Frag} {mg : Str → Option Value} {base : Heap} {f : Addr} {B : Nat}
theorem row_succ {n w : Nat} {row : List Int} : Row n (w + 1) row ↔ ∃ r x, row = r ++ [x] ∧ Row n w r ∧ 0 ≤ x ∧ x < (n : Int) := by
  constructor
  · rintro ⟨h1, h2⟩
    have hne : row ≠ [] := fun e => by rw [e] at h1; simp at h1
    refine ⟨row.dropLast, row.getLast hne, (List.dropLast_concat_getLast hne).symm, ⟨by rw [List.length_dropLast, h1]; rfl, fun a ha => h2 a (List.dropLast_subset _ ha)⟩, h2 _ (List.getLast_mem hne)⟩
  · rintro ⟨r, x, rfl, ⟨h1, h2⟩, h3, h4⟩
    refine ⟨by rw [List.length_append, h1]; rfl, fun a ha => ?_⟩
    rcases List.mem_append.mp ha with m | m
    · exact h2 a m
    · rw [List.mem_singleton.mp m]; exact ⟨h3, h4⟩
theorem row_zero {n : Nat} {row : List Int} : Row n 0 row ↔ row = [] := by
  constructor
  · exact fun h => List.length_eq_zero_iff.mp h.1
  · rintro rfl
    exact ⟨rfl, fun a ha => by cases ha⟩
def spTuples (K : PySem.W.Frag) : L2.Sp := fun vs H Q _ => ∃ n w : Nat, ∃ wz : Int, wz = (w : Nat) ∧ vs = [.int (n : Nat), .int wz] ∧ n ≤ 3 ∧ w ≤ 6 ∧
  ∀ p us rows H', Ext [] H H' → H' p = some (.lst us) → All2 (Rw K H') rows us → (∀ row, row ∈ rows ↔ Row n w row) → H p = none → us.length ≤ 1000 → Q (.ref p) H'
theorem sc_law_tuples : FnScope ["_law_n", "_law_width", "_law_rows_here", "_law_k", "_law_longer", "_law_row", "_law_x"] ["_law_n", "_law_width"] (defScope s_law_tuples) := ⟨rfl, rfl, rfl, by decide +kernel, rfl, by decide +kernel, by decide +kernel⟩
theorem hs_tuples (T : Tx w K mg) (D : Dn K mg "_law_tuples" s_law_tuples f) : Hs P w K mg base CX0 1 "_law_tuples" ["_law_n", "_law_width"] (spTuples K) := by
  refine Hs.of D sc_law_tuples (fun vs H Q E h => ?_) (fun _ _ _ _ _ _ us hl => match us, hl with | [_, _], _ => rfl) (fun cdv A outer s H vs Q E hr h => ?_)
  · obtain ⟨n, w, _, rfl, rfl, _⟩ := h
    rfl
  obtain ⟨n, w, _, rfl, rfl, hn, hw, q⟩ := h
  refine ⟨_, PSs.nox (pss_cons (ps_set (i := 2) sc_law_tuples.nd rfl (by first | exact Or.inl rfl | exact Or.inr rfl) (pe_lst (pa_cons (pe_tup pa_nil) pa_nil)))
      (pss_cons (ps_for PassesOwn.never rfl (pi_range1 rfl T.zrange (pa_cons (pv 1) pa_nil)) (pg_name (i := 3) sc_law_tuples.nd rfl (by first | exact Or.inl rfl | exact Or.inr rfl)) (pss_cons (ps_set (i := 4) sc_law_tuples.nd rfl (by first | exact Or.inl rfl | exact Or.inr rfl) (pe_lst pa_nil))
      (pss_cons (ps_for PassesOwn.never rfl (pi_list (pv 2)) (pg_name (i := 5) sc_law_tuples.nd rfl (by first | exact Or.inl rfl | exact Or.inr rfl)) (pss_one (ps_expr (pe_bm PySem.F.plainAttrs_list PySem.F.slot_list_extend PySem.F.type_list_extend mt_extend (pv 4) (pa_cons (pe_lc (own := [("_law_x", 6)]) (g := gName 6) rfl sc_law_tuples.nd (pi_range1 rfl T.zrange (pa_cons (pv 0) pa_nil)) (blkOk_by (own := [("_law_x", 6)]) (N := ["_law_n", "_law_width", "_law_rows_here", "_law_k", "_law_longer", "_law_row", "_law_x"]) (sc := defScope s_law_tuples) (by decide +kernel)) (fun _ _ _ _ _ => pg_name (i := 6) sc_law_tuples.nd rfl (Or.inl rfl)) (fun _ _ _ _ _ => pts_nil) (fun _ _ _ _ _ => (pe_op (op_cat1B (K := K) rfl) (pv 5) (pe_tup (pa_cons (pv 6) pa_nil))))) pa_nil)))))
      (pss_one (ps_set (i := 2) sc_law_tuples.nd rfl (by first | exact Or.inl rfl | exact Or.inr rfl) (pv 4))))))
      (pss_one (ps_ret (pv 2))))), ?_⟩
  refine ⟨sz 0 rfl, fun p0 hp0 => ⟨sz 1 rfl, fun p1 hp1 => ?_⟩⟩
  have e0 : Ext [] H (upd H p0 (.tup [])) := .new hp0
  have e1 := e0.add (o := .lst [.ref p0]) hp1
  have hR0 : All2 (Rw K (upd (upd H p0 (.tup [])) p1 (.lst [.ref p0]))) [[]] [.ref p0] := All2.one ⟨p0, rfl, (Ext.new (S := []) hp1).tup (SqT.of upd_same)⟩
  have p3 : ∀ k, k ≤ 6 → 3 ^ k ≤ 1000 := fun k hk => Nat.le_trans (Nat.pow_le_pow_right (by decide) hk) (by decide)
  refine ⟨_, rfl, (w : Nat), rfl, by omega, by omega, for_range (n := w) (fun i σ H' => ∃ pr us rows, (∃ o3 o4 o5 o6, σ = [some (.int (n : Nat)), some (.int (w : Nat)), some (.ref pr), o3, o4, o5, o6]) ∧ Ext [] H H' ∧ H' pr = some (.lst us) ∧ All2 (Rw K H') rows us ∧ (∀ row, row ∈ rows ↔ Row n i row) ∧ H pr = none ∧ us.length ≤ 3 ^ i)
    ⟨p1, [.ref p0], [[]], ⟨_, _, _, _, rfl⟩, e1, upd_same, hR0, fun row => by rw [row_zero]; simp, e0.free p1 hp1, by show 1 ≤ 1; decide⟩ (fun i σ H' hi ⟨pr, us, rows, ⟨o3, o4, o5, o6, e⟩, e2, g1, g2, g3, g4, g5⟩ => ?_) (fun σ H' ⟨pr, us, rows, ⟨o3, o4, o5, o6, e⟩, e2, g1, g2, g3, g4, g5⟩ => ?_)⟩
  · subst e
    refine ⟨sz 0 rfl, fun lg hlg => ?_⟩
    have x1 : Ext [] H' (upd H' lg (.lst [])) := .new hlg
    have hlg0 := e2.free lg hlg
    have hne : pr ≠ lg := ne_of_none g1 hlg
    have g1' := x1.get0 g1
    have hul := g2.length
    refine ⟨_, rfl, pr, rfl, ⟨_, .inl (.inl g1')⟩, for_list (xs := us) (fun j σ H3 => (∃ o3 o5 o6, σ = [some (.int (n : Nat)), some (.int (w : Nat)), some (.ref pr), o3, some (.ref lg), o5, o6]) ∧ Ext [lg] (upd H' lg (.lst [])) H3 ∧ ∃ us2 rows2, H3 lg = some (.lst us2) ∧ All2 (Rw K H3) rows2 us2 ∧ (∀ row, row ∈ rows2 ↔ ∃ r x, row = r ++ [x] ∧ r ∈ rows.take j ∧ 0 ≤ x ∧ x < (n : Int)) ∧ us2.length ≤ 3 * j)
      ⟨⟨_, _, _, rfl⟩, .refl, [], [], upd_same, rfl, by simp, Nat.le_refl _⟩ (fun j σ H3 _ z => z.2.1.lst (.inl (.inl g1')) (by simp [hne])) (fun j y σ H3 hy ⟨⟨o3, o5, o6, e⟩, e3, us2, rows2, k1, k2, k3, k4⟩ => ?_) (fun σ H3 ⟨⟨o3, o5, o6, e⟩, e3, us2, rows2, k1, k2, k3, k4⟩ => ?_)⟩
    · subst e
      obtain ⟨r, hr0, a, rfl, ha⟩ := g2.get hy
      have hj : j < us.length := by
        rcases Nat.lt_or_ge j us.length with a | a
        · exact a
        · rw [List.getElem?_eq_none a] at hy; cases hy
      have ha3 := (x1.any.trans e3).tup ha
      have hts := (take_step hr0).1
      have hrl : r.length ≤ 6 := by
        have := ((g3 r).mp (List.mem_of_getElem? hr0)).1
        omega
      have h3i : 3 ^ i ≤ 1000 := p3 i (by omega)
      refine ⟨_, rfl, .inl ⟨rfl, _, .inl (.inl k1)⟩, ?_⟩
      refine ⟨_, rfl, (n : Nat), rfl, by omega, by omega, fun B2 hB2 => ?_⟩
      have nB : B2 ≠ lg := (ne_of_none k1 hB2).symm
      refine lc_range (n := n) (fun m H5 => ∃ zs rz, H5 B2 = some (.lst zs) ∧ All2 (Rw K H5) rz zs ∧ (∀ row, row ∈ rz ↔ ∃ x : Int, row = r ++ [x] ∧ 0 ≤ x ∧ x < (m : Nat)) ∧ zs.length ≤ m ∧ Ext [] H3 H5) ⟨[], [], upd_same, rfl, fun row => ⟨fun h => (nomatch h), fun ⟨x, _, h1, h2⟩ => absurd h2 (by omega)⟩, Nat.le_refl _, .new hB2⟩ (fun m H5 hm ⟨zs, rz, l1, l2, l3, l4, l5⟩ => ?_) (fun H5 ⟨zs, rz, l1, l2, l3, l4, l5⟩ => ?_)
      · refine ⟨rfl, ?_⟩
        refine ⟨_, rfl, _, rfl, sz 1 rfl, fun p6 hp6 => ?_⟩
        have x6 : Ext [] H5 (upd H5 p6 (.tup [.int (0 + ((m : Nat) : Int))])) := .new hp6
        refine ⟨a, p6, _, _, rfl, rfl, x6.tup (l5.tup ha3), SqT.of upd_same, by rw [List.length_map]; show r.length + 1 ≤ 1000; omega, fun p7 H7 e7 hp7 => ?_⟩
        have E7 := x6.trans e7
        have hB7 := E7.get0 l1
        have x8 : Ext [B2] H7 (upd H7 B2 (.lst (zs ++ [.ref p7]))) := Ext.put .refl (by simp) hB7 rfl
        refine ⟨_, hB7, big_sz (by omega), zs ++ [.ref p7], rz ++ [r ++ [((m : Nat) : Int)]], upd_same, ?_, fun row => ?_, by simp; omega, (l5.trans E7).mut hB2⟩
        · refine (l2.mono fun p u h => Rw.ext x8 p u (Rw.ext E7 p u h)).app (All2.one ⟨p7, rfl, ?_⟩)
          have := x8.tup hp7
          rw [Int.zero_add] at this
          rw [List.map_append]
          exact this
        · rw [List.mem_append, List.mem_singleton, l3 row]
          constructor
          · rintro (⟨x, h1, h2, h3⟩ | h)
            · exact ⟨x, h1, h2, by omega⟩
            · exact ⟨(m : Nat), h, by omega, by omega⟩
          · rintro ⟨x, h1, h2, h3⟩
            by_cases hx : x = (m : Nat)
            · exact .inr (by rw [h1, hx])
            · exact .inl ⟨x, h1, h2, by omega⟩
      · have k1' := l5.get0 k1
        refine ⟨lg, B2, _, _, rfl, rfl, k1', l1, small_sz_m (by omega), ?_⟩
        have x8 : Ext [lg] H5 (upd H5 lg (.lst (us2 ++ zs))) := Ext.put .refl (by simp) k1' rfl
        refine ⟨⟨_, _, _, rfl⟩, e3.trans ((l5.any (T := [lg])).trans x8), us2 ++ zs, rows2 ++ rz, upd_same, ((k2.mono fun p u => Rw.ext l5 p u).app l2).mono fun p u => Rw.ext x8 p u, fun row => ?_, by rw [List.length_append]; omega⟩
        rw [List.mem_append, k3 row, l3 row, hts]
        constructor
        · rintro (⟨r', x, h1, h2, h3⟩ | ⟨x, h1, h2⟩)
          · exact ⟨r', x, h1, List.mem_append_left _ h2, h3⟩
          · exact ⟨r, x, h1, by simp, h2⟩
        · rintro ⟨r', x, h1, h2, h3⟩
          rcases List.mem_append.mp h2 with m | m
          · exact .inl ⟨r', x, h1, m, h3⟩
          · rw [List.mem_singleton.mp m] at h1
            exact .inr ⟨x, h1, h3⟩
    · subst e
      rw [hul, List.take_length] at k3
      have E3 : Ext [] H H3 := (e2.trans x1).late e3 (by simpa using hlg0)
      refine ⟨_, rfl, lg, us2, rows2, ⟨_, _, _, _, rfl⟩, E3, k1, k2, fun row => ?_, hlg0, ?_⟩
      · rw [k3 row, row_succ]
        constructor
        · rintro ⟨r, x, h1, h2, h3⟩
          exact ⟨r, x, h1, (g3 r).mp h2, h3⟩
        · rintro ⟨r, x, h1, h2, h3⟩
          exact ⟨r, x, h1, (g3 r).mpr h2, h3⟩
      · rw [Nat.pow_succ]
        omega
  · subst e
    refine ⟨_, rfl, q pr us rows H' e2 g1 g2 g3 g4 ?_⟩
    have := p3 w hw
    omega
/-! ### values -/
def Vd (r : Val) (dom : List Str) (kk : List (Key × V)) : Prop := ∀ x ∈ dom, valV kk (Sum.inr x) = some (V.int (r x))
theorem Vd.put {r : Val} {dom : List Str} {kk : List (Key × V)} (h : Vd r dom kk) (x : Str) (a : Int) : Vd (fun y => if y = x then a else r y) (dom ++ [x]) (putK kk (Sum.inr x) (.int a)) := fun y hy => by
  rw [valV_put]
  by_cases e : y = x
  · rw [if_pos (by rw [e])]
    show some (V.int a) = some (V.int (if y = x then a else r y))
    rw [if_pos e]
  · rw [if_neg fun z => e (Sum.inr.inj z)]
    show _ = some (V.int (if y = x then a else r y))
    rw [if_neg e]
    refine h y ((List.mem_append.mp hy).resolve_right fun m => e (List.mem_singleton.mp m))
def spLWith (K : PySem.W.Frag) : L2.Sp := fun vs H Q _ => ∃ kd na ra kk r dom, ∃ names : List Str, ∃ row : List Int, vs = [.ref kd, .ref na, .ref ra] ∧ H kd = some (.dK kk) ∧ Vd r dom kk ∧ (SqT K H na (sv names) ∨ SqL K H na (sv names)) ∧ SqT K H ra (row.map V.int) ∧ names.length = row.length ∧ kk.length + names.length ≤ 100000 ∧
  ∀ d kk' H', Ext [] H H' → H' d = some (.dK kk') → Vd (put r names row) (dom ++ names) kk' → kk'.length ≤ kk.length + names.length → H d = none → Q (.ref d) H'
theorem sc_law_with : FnScope ["_law_values", "_law_names_here", "_law_row", "_law_inner", "_law_k"] ["_law_values", "_law_names_here", "_law_row"] (defScope s_law_with) := ⟨rfl, rfl, rfl, by decide +kernel, rfl, by decide +kernel, by decide +kernel⟩
theorem hs_with (T : Tx w K mg) (D : Dn K mg "_law_with" s_law_with f) : Hs P w K mg base CX0 1 "_law_with" ["_law_values", "_law_names_here", "_law_row"] (spLWith K) := by
  refine Hs.of D sc_law_with (fun vs H Q E h => ?_) (fun _ _ _ _ _ _ us hl => match us, hl with | [_, _, _], _ => rfl) (fun cdv A outer s H vs Q E hr h => ?_)
  · obtain ⟨kd, na, ra, kk, r, dom, names, row, rfl, _⟩ := h
    rfl
  obtain ⟨kd, na, ra, kk, r, dom, names, row, rfl, hk, hV, hna, hra, hlen, hz, q⟩ := h
  refine ⟨_, PSs.nox (pss_cons (ps_set (i := 3) sc_law_with.nd rfl (by first | exact Or.inl rfl | exact Or.inr rfl) (pe_callTy call_dictD (by rfl) T.zdict (by decide +kernel) (pa_cons (pv 0) pa_nil)))
      (pss_cons (ps_for PassesOwn.never rfl (pi_range1 rfl T.zrange (pa_cons (pe_callB call_len_seq (by rfl) T.zlen PySem.boot_len (pa_cons (pv 1) pa_nil)) pa_nil)) (pg_name (i := 4) sc_law_with.nd rfl (by first | exact Or.inl rfl | exact Or.inr rfl)) (pss_one (ps_dput (hu_of hr) (pv 3) (pe_ix ix_or (pv 1) (pv 4) (fun _ _ => rfl)) (pe_ix ix_tup (pv 2) (pv 4) (fun _ _ => rfl)) rfl)))
      (pss_one (ps_ret (pv 3))))), ?_⟩
  refine ⟨_, rfl, _, _, rfl, .inl hk, fun d hd => ?_⟩
  have e1 : Ext [] H (upd H d (.dK kk)) := .new hd
  have hnl : (sv names).length = names.length := List.length_map _
  have hna1 : ∀ {H'}, Ext [] H H' → (SqL K H' na (sv names) ∨ SqT K H' na (sv names)) := fun x => hna.elim (fun h => .inr (x.tup h)) fun h => .inl (x.lst0 h)
  refine ⟨_, rfl, na, _, rfl, hna1 e1, ((sv names).length : Nat), rfl, by omega, by omega, for_range (n := (sv names).length) (fun i σ H' => (∃ o4, σ = [some (.ref kd), some (.ref na), some (.ref ra), some (.ref d), o4]) ∧ Ext [] H H' ∧ ∃ kk', H' d = some (.dK kk') ∧ Vd (Say.put r (names.take i) (row.take i)) (dom ++ names.take i) kk' ∧ kk'.length ≤ kk.length + i) ⟨⟨_, rfl⟩, e1, kk, upd_same, by simpa [put_nil] using hV, Nat.le_refl _⟩
    (fun i σ H' hi ⟨⟨o4, e⟩, e2, kk', g1, g2, g3⟩ => ?_) (fun σ H' ⟨⟨o4, e⟩, e2, kk', g1, g2, g3⟩ => ?_)⟩
  · subst e
    have hin : i < names.length := by omega
    have hir : i < row.length := by omega
    have hx : names[i]? = some names[i] := List.getElem?_eq_getElem hin
    have hxv : (sv names)[i]? = some (.str names[i]) := by rw [List.getElem?_map, hx]; rfl
    have hy : row[i]? = some row[i] := List.getElem?_eq_getElem hir
    have hyv : (row.map V.int)[i]? = some (.int row[i]) := by rw [List.getElem?_map, hy]; rfl
    have hat1 : atI (sv names) (0 + ((i : Nat) : Int)) = some (.str names[i]) := by rw [Int.zero_add]; exact atI_nat hxv
    have hat2 : atI (row.map V.int) (0 + ((i : Nat) : Int)) = some (.int row[i]) := by rw [Int.zero_add]; exact atI_nat hyv
    refine ⟨_, rfl, _, rfl, _, _, _, _, rfl, rfl, e2.tup hra, hat2, _, rfl, _, rfl, _, rfl, ?_⟩
    have fin : ∀ (D : Ends), D.nx = (fun σ H' => (∃ o4, σ = [some (.ref kd), some (.ref na), some (.ref ra), some (.ref d), o4]) ∧ Ext [] H H' ∧ ∃ kk', H' d = some (.dK kk') ∧ Vd (Say.put r (names.take (i + 1)) (row.take (i + 1))) (dom ++ names.take (i + 1)) kk' ∧ kk'.length ≤ kk.length + (i + 1)) →
        ∃ a H4, V.ref d = V.ref a ∧ DPut H' a (.str names[i]) (.int row[i]) H4 ∧ D.nx [some (.ref kd), some (.ref na), some (.ref ra), some (.ref d), some (.int (0 + ((i : Nat) : Int)))] H4 := by
      intro D hD
      rw [hD]
      refine ⟨d, _, rfl, DPut.k (k := Sum.inr names[i]) g1 (big_sz (by omega)), ⟨_, rfl⟩, e2.mut hd, _, upd_same, ?_, Nat.le_trans (length_putK _ _ _) (by omega)⟩
      rw [(take_step hx).1, (take_step hy).1, put_app (by rw [List.length_take, List.length_take]; omega), ← List.append_assoc]
      exact g2.put names[i] row[i]
    rcases hna with h | h
    · exact .inl ⟨_, _, _, _, rfl, rfl, e2.tup h, hat1, fin _ rfl⟩
    · exact .inr ⟨_, _, _, _, rfl, rfl, e2.lst0 h, hat1, fin _ rfl⟩
  · subst e
    rw [hnl] at g2 g3
    rw [List.take_length, List.take_of_length_le (by omega)] at g2
    exact ⟨_, rfl, q d kk' H' e2 g1 g2 g3 hd⟩
end
end Say
set_option maxRecDepth 100000
set_option maxHeartbeats 4000000
/-! the law: what is true -/
namespace Say
open PySem PySem.Spec PyProof.Rows L2 Fm
section
variable {P : Program} {w : World} {K : PySem.W.Frag} {mg : Str → Option Value} {base : Heap} {f : Addr} {B : Nat}
theorem dget_of {H : Hp} {a : Addr} {kvs : List (Key × V)} {k : Key} {v : V} (e : H a = some (.dK kvs)) (h : valV kvs k = some v) : DGet H a (kV k) (some v) := by
  rw [← h]
  exact DGet.k e
structure Wo (K : PySem.W.Frag) (H : Hp) (rd : Addr) (rk : List (Key × V)) (fu : Addr) (I : Str → List (List Int)) (sg : List Str) : Prop where
  at_ : H rd = some (.dK rk)
  z : valV rk (Sum.inr "") = some (.ref fu)
  rows : ∀ x ∈ sg, ∃ a us, valV rk (Sum.inr x) = some (.ref a) ∧ H a = some (.lst us) ∧ All2 (Rw K H) (I x) us ∧ a ≠ fu
  ne : rd ≠ fu
theorem Wo.get {H H1 : Hp} {rd : Addr} {rk : List (Key × V)} {fu : Addr} {I : Str → List (List Int)} {sg : List Str} (h : Wo K H rd rk fu I sg) (x : Ext [fu] H H1) : Wo K H1 rd rk fu I sg :=
  ⟨x.get h.at_ (by simp [h.ne]), h.z, fun y hy => by
    obtain ⟨a, us, h1, h2, h3, h4⟩ := h.rows y hy
    exact ⟨a, us, h1, x.get h2 (by simp [h4]), h3.mono fun p u => Rw.ext x p u, h4⟩, h.ne⟩
def spTrue (K : PySem.W.Frag) (n : Nat) : L2.Sp := fun vs H Q _ => ∃ f v, ∃ m : Nat, ∃ rd rk fu, ∃ t : Int, ∃ vd kk r dom I sg s0 b, vs = [v, .int (m : Nat), .ref rd, .ref vd] ∧ Rp K H f v ∧ Wf s0 b f ∧ fo f = true ∧ dp f ≤ n ∧ 1 ≤ m ∧ m ≤ 3 ∧ Wo K H rd rk fu I sg ∧ (∀ x ∈ sy f, x.1 ∈ sg) ∧ H fu = some (.lst [.int t]) ∧ H vd = some (.dK kk) ∧ Vd r dom kk ∧ (∀ x ∈ fv f, x ∈ dom) ∧ kk.length + 6 * dp f ≤ 5000 ∧
  ∀ b' t' H', Ext [fu] H H' → H' fu = some (.lst [.int t']) → t' ≤ t → (0 ≤ t' → (b' = true ↔ Sat I m f r)) → Q (.bl b') H'
theorem sc_law_true : FnScope ["_law_f", "_law_n", "_law_rows_here", "_law_values", "_law_x", "_law_part", "_law_row"] ["_law_f", "_law_n", "_law_rows_here", "_law_values"] (defScope s_law_true) := ⟨rfl, rfl, rfl, by decide +kernel, rfl, by decide +kernel, by decide +kernel⟩
theorem hs_true (T : Tx w K mg) (D : Dn K mg "_law_true" s_law_true f) (h_law_tuples : Hs P w K mg base CX0 1 "_law_tuples" ["_law_n", "_law_width"] (spTuples K)) (h_law_with : Hs P w K mg base CX0 1 "_law_with" ["_law_values", "_law_names_here", "_law_row"] (spLWith K)) :
    ∀ n, Hs P w K mg base CX0 (1 + n + 1) "_law_true" ["_law_f", "_law_n", "_law_rows_here", "_law_values"] (spTrue K n) := by
  intro n
  induction n with
  | zero =>
    refine Hs.of D sc_law_true (fun vs H Q E h => ?_) (fun _ _ _ _ _ _ us hl => match us, hl with | [_, _, _, _], _ => rfl) (fun cdv A outer s H vs Q E hr h => ?_)
    · obtain ⟨f, v, m, rd, rk, fu, t, vd, kk, r, dom, I, sg, s0, b, rfl, _⟩ := h
      rfl
    obtain ⟨f, v, m, rd, rk, fu, t, vd, kk, r, dom, I, sg, s0, b, rfl, _, _, _, h, _⟩ := h
    exact absurd (dp_pos f) (by omega)
  | succ n ih =>
    have h_law_true := ih
    refine Hs.of D sc_law_true (fun vs H Q E h => ?_) (fun _ _ _ _ _ _ us hl => match us, hl with | [_, _, _, _], _ => rfl) (fun cdv A outer s H vs Q E hr h => ?_)
    · obtain ⟨f, v, m, rd, rk, fu, t, vd, kk, r, dom, I, sg, s0, b, rfl, _⟩ := h
      rfl
    obtain ⟨f, v, m, rd, rk, fu, t, vd, kk, r, dom, I, sg, s0, b, rfl, hf, wf, hfo, hn, hm1, hm3, hW, hsg, hfu, hvd, hV, hdom, hkl, q⟩ := h
    refine ⟨_, PSs.nox (pss_cons (ps_asg (pe_op op_sub (pe_ix ix_list (pe_dget (hu_of hr) (pv 2) pe_str (fun _ _ => rfl)) pe_int (fun _ _ => rfl)) pe_int) (pg_sub (pe_dget (hu_of hr) (pv 2) pe_str (fun _ _ => rfl)) pe_int set_list))
      (pss_cons (ps_if (pt_cmpR op_lt (pe_ix ix_list (pe_dget (hu_of hr) (pv 2) pe_str (fun _ _ => rfl)) pe_int (fun _ _ => rfl)) pe_int (nomark _)) (pss_one (ps_ret pe_bl)) pss_nil)
      (pss_cons (ps_if (pt_cmpR op_eq (pe_ix ix_tup (pv 0) pe_int (fun _ _ => rfl)) pe_str (nomark _)) (pss_one (ps_ret (pe_cmpR (op_inRw (K := K) rfl (hu65 hr)) (pe_callTy call_tuple_of (by rfl) T.ztuple (by decide +kernel) (pa_cons (pe_lc (own := [("_law_x", 4)]) (g := gName 4) rfl sc_law_true.nd (pi_tup (pe_ix ix_tup (pv 0) pe_int (fun _ _ => rfl))) (blkOk_by (own := [("_law_x", 4)]) (N := ["_law_f", "_law_n", "_law_rows_here", "_law_values", "_law_x", "_law_part", "_law_row"]) (sc := defScope s_law_true) (by decide +kernel)) (fun _ _ _ _ _ => pg_name (i := 4) sc_law_true.nd rfl (Or.inl rfl)) (fun _ _ _ _ _ => pts_nil) (fun _ _ _ _ _ => (pe_dget (hu_of hr) (pv 3) (pv 4) (fun _ _ => rfl)))) pa_nil)) (pe_dget (hu_of hr) (pv 2) (pe_ix ix_tup (pv 0) pe_int (fun _ _ => rfl)) (fun _ _ => rfl)) rfl))) pss_nil)
      (pss_cons (ps_if (pt_cmpR op_eq (pe_ix ix_tup (pv 0) pe_int (fun _ _ => rfl)) pe_str (nomark _)) (pss_one (ps_ret (pe_cmpR op_eq (pe_dget (hu_of hr) (pv 3) (pe_ix ix_tup (pv 0) pe_int (fun _ _ => rfl)) (fun _ _ => rfl)) (pe_dget (hu_of hr) (pv 3) (pe_ix ix_tup (pv 0) pe_int (fun _ _ => rfl)) (fun _ _ => rfl)) (nomark _)))) pss_nil)
      (pss_cons (ps_if (pt_cmpR op_eq (pe_ix ix_tup (pv 0) pe_int (fun _ _ => rfl)) pe_str (nomark _)) (pss_one (ps_ret (pe_cmpR op_lt (pe_dget (hu_of hr) (pv 3) (pe_ix ix_tup (pv 0) pe_int (fun _ _ => rfl)) (fun _ _ => rfl)) (pe_dget (hu_of hr) (pv 3) (pe_ix ix_tup (pv 0) pe_int (fun _ _ => rfl)) (fun _ _ => rfl)) (nomark _)))) pss_nil)
      (pss_cons (ps_if (pt_cmpR op_eq (pe_ix ix_tup (pv 0) pe_int (fun _ _ => rfl)) pe_str (nomark _)) (pss_one (ps_ret (pe_not (pe_h h_law_true (hr.mono (by omega)) rfl pass0 (pa_cons (pe_ix ix_tup (pv 0) pe_int (fun _ _ => rfl)) (pa_cons (pv 1) (pa_cons (pv 2) (pa_cons (pv 3) pa_nil)))))))) pss_nil)
      (pss_cons (ps_if (PW.pt (pw_or (pt_cmpR op_eq (pe_ix ix_tup (pv 0) pe_int (fun _ _ => rfl)) pe_str (nomark _)) (pw_or1 (pt_cmpR op_eq (pe_ix ix_tup (pv 0) pe_int (fun _ _ => rfl)) pe_str (nomark _))))) (pss_cons (ps_for PassesOwn.never rfl (pi_tup (pe_ix ix_tup (pv 0) pe_int (fun _ _ => rfl))) (pg_name (i := 5) sc_law_true.nd rfl (by first | exact Or.inl rfl | exact Or.inr rfl)) (pss_one (ps_if (pt_cmpR op_ne (pe_h h_law_true (hr.mono (by omega)) rfl pass0 (pa_cons (pv 5) (pa_cons (pv 1) (pa_cons (pv 2) (pa_cons (pv 3) pa_nil))))) (pe_cmpR op_eq (pe_ix ix_tup (pv 0) pe_int (fun _ _ => rfl)) pe_str (nomark _)) (nomark _)) (pss_one (ps_ret (pe_cmpR op_eq (pe_ix ix_tup (pv 0) pe_int (fun _ _ => rfl)) pe_str (nomark _)))) pss_nil)))
      (pss_one (ps_ret (pe_cmpR op_eq (pe_ix ix_tup (pv 0) pe_int (fun _ _ => rfl)) pe_str (nomark _))))) pss_nil)
      (pss_cons (ps_if (PW.pt (pw_or (pt_cmpR op_eq (pe_ix ix_tup (pv 0) pe_int (fun _ _ => rfl)) pe_str (nomark _)) (pw_or1 (pt_cmpR op_eq (pe_ix ix_tup (pv 0) pe_int (fun _ _ => rfl)) pe_str (nomark _))))) (pss_cons (ps_for PassesOwn.never rfl (pi_list (pe_h h_law_tuples (hr.mono (by omega)) rfl pass0 (pa_cons (pv 1) (pa_cons (pe_callB call_len_seq (by rfl) T.zlen PySem.boot_len (pa_cons (pe_ix ix_tup (pv 0) pe_int (fun _ _ => rfl)) pa_nil)) pa_nil)))) (pg_name (i := 6) sc_law_true.nd rfl (by first | exact Or.inl rfl | exact Or.inr rfl)) (pss_one (ps_if (pt_cmpR op_eq (pe_h h_law_true (hr.mono (by omega)) rfl pass0 (pa_cons (pe_ix ix_tup (pv 0) pe_int (fun _ _ => rfl)) (pa_cons (pv 1) (pa_cons (pv 2) (pa_cons (pe_h h_law_with (hr.mono (by omega)) rfl pass0 (pa_cons (pv 3) (pa_cons (pe_ix ix_tup (pv 0) pe_int (fun _ _ => rfl)) (pa_cons (pv 6) pa_nil)))) pa_nil))))) (pe_cmpR op_eq (pe_ix ix_tup (pv 0) pe_int (fun _ _ => rfl)) pe_str (nomark _)) (nomark _)) (pss_one (ps_ret (pe_cmpR op_eq (pe_ix ix_tup (pv 0) pe_int (fun _ _ => rfl)) pe_str (nomark _)))) pss_nil)))
      (pss_one (ps_ret (pe_cmpR op_eq (pe_ix ix_tup (pv 0) pe_int (fun _ _ => rfl)) pe_str (nomark _))))) pss_nil)
      (pss_cons (ps_if (PW.pt (pw_or (pt_cmpR op_eq (pe_ix ix_tup (pv 0) pe_int (fun _ _ => rfl)) pe_str (nomark _)) (pw_or1 (pt_cmpR op_eq (pe_ix ix_tup (pv 0) pe_int (fun _ _ => rfl)) pe_str (nomark _))))) (pss_one ps_never) pss_nil)
      (pss_cons (ps_if (pt_cmpR op_eq (pe_ix ix_tup (pv 0) pe_int (fun _ _ => rfl)) pe_str (nomark _)) (pss_one ps_never) pss_nil)
      (pss_one ps_never))))))))))), ?_⟩
    have hvf : vd ≠ fu := ne_of hvd hfu (by intro z; cases z)
    refine ⟨_, rfl, rd, _, rfl, dget_of (k := Sum.inr "") hW.at_ hW.z, _, _, _, _, rfl, rfl, .inl (.inl hfu), rfl, _, _, rfl, rfl, _, rfl, rd, _, rfl, dget_of (k := Sum.inr "") hW.at_ hW.z, fu, _, _, _, rfl, rfl, hfu, rfl, ?_⟩
    have e1 : Ext [fu] H (upd H fu (.lst [.int (t - 1)])) := Ext.put .refl (by simp) hfu rfl
    have f1 : upd H fu (.lst [.int (t - 1)]) fu = some (.lst [.int (t - 1)]) := upd_same
    have hW1 := hW.get e1
    have hvd1 := e1.get hvd (by simp [hvf])
    refine ⟨_, rfl, rd, _, rfl, dget_of (k := Sum.inr "") hW1.at_ hW1.z, _, _, _, _, rfl, rfl, .inl (.inl f1), rfl, _, _, rfl, rfl, _, rfl, ifB (fun hb => ?_) (fun hb => ?_)⟩
    · have hb : t - 1 < 0 := of_decide_eq_true hb
      exact q false (t - 1) _ e1 f1 (by omega) fun h => absurd h (by omega)
    have hf1 := Rp.ext e1 f hf
    have hat : ∃ a xs, v = .ref a ∧ SqT K H a (.str (wd f) :: xs) := Rp.at f hf
    obtain ⟨a, xs, rfl, hat⟩ := hat
    have hat1 := e1.tup hat
    generalize hH1 : upd H fu (.lst [.int (t - 1)]) = H1 at e1 f1 hW1 hvd1 hf1 hat1
    have go : ∀ (G : Hp → Prop), G H1 → G (upd H fu (.lst ([V.int t].set 0 (.int (t - 1))))) := fun G h => by
      have : upd H fu (.lst ([V.int t].set 0 (.int (t - 1)))) = H1 := hH1
      rw [this]
      exact h
    refine go _ ?_
    cases f with
    | rel nm args =>
      obtain ⟨a', b', e', k1', k2'⟩ := hf1
      cases e'
      refine rd_eqw rfl hat1 "rel" 0 (by decide +kernel) (ifT rfl ?_)
      refine ⟨_, rfl, _, _, _, _, rfl, rfl, k1', rfl, b', rfl, ⟨_, k2'⟩, fun B2 hB2 => ?_⟩
      refine lc_tup (xs := sv args) (fun i H' => H' B2 = some (.lst (((args.take i).map r).map V.int)) ∧ Ext [] H1 H') ⟨upd_same, .new hB2⟩ (fun i H' _ z => z.2.tup k2') (fun i y H' hy ⟨g1, e3⟩ => ?_) (fun H' ⟨g1, e3⟩ => ?_)
      · rw [List.getElem?_map] at hy
        obtain ⟨y0, hy0, rfl⟩ := Option.map_eq_some_iff.mp hy
        have hi : i < args.length := by
          rcases Nat.lt_or_ge i args.length with a | a
          · exact a
          · rw [List.getElem?_eq_none a] at hy0; cases hy0
        have h6 := wf.2.2.1
        refine ⟨rfl, ?_⟩
        refine ⟨_, rfl, _, rfl, vd, _, rfl, dget_of (k := Sum.inr y0) (e3.get0 hvd1) (hV y0 (hdom y0 (List.mem_of_getElem? hy0))), ?_⟩
        refine ⟨_, g1, big_sz (by rw [List.length_map, List.length_map, List.length_take]; omega), ?_, e3.mut hB2⟩
        rw [upd_same, (take_step hy0).1, List.map_append, List.map_append]
        rfl
      · rw [List.length_map, List.take_length] at g1
        refine ⟨B2, _, rfl, .inl ⟨.inl (.inl g1), fun p hp => ?_⟩⟩
        have x4 : Ext [] H' (upd H' p (.tup ((args.map r).map V.int))) := .new hp
        have E4 := e3.trans x4
        obtain ⟨ra, us, v1, v2, v3, v4⟩ := hW1.rows nm (hsg (nm, args.length) (by simp [sy]))
        refine ⟨_, rfl, _, rfl, _, _, _, _, rfl, rfl, E4.tup k1', rfl, rd, _, rfl, dget_of (k := Sum.inr nm) (E4.get0 hW1.at_) v1, args.map r, I nm, ra, us, rfl, ⟨p, rfl, SqT.of upd_same⟩, .inl (.inl (E4.get0 v2)), v3.mono fun p u => Rw.ext E4 p u, ?_⟩
        refine q _ (t - 1) _ (e1.trans (E4.any (T := [fu]))) (E4.get0 f1) (by omega) fun _ => ?_
        rw [decide_eq_true_eq]
        exact Iff.rfl
    | cmp c x y =>
      obtain ⟨a', e', k1'⟩ := hf1
      cases e'
      cases c with
      | false =>
        refine rd_eqw rfl hat1 "rel" 0 (by decide +kernel) (ifF rfl ?_)
        refine rd_eqw rfl hat1 "eq" 1 (by decide +kernel) (ifT rfl ?_)
        have hx := hV x (hdom x (by simp [fv]))
        have hy := hV y (hdom y (by simp [fv]))
        refine ⟨_, rfl, _, rfl, _, _, _, _, rfl, rfl, k1', rfl, vd, _, rfl, dget_of (k := Sum.inr x) hvd1 hx, _, rfl, _, rfl, _, _, _, _, rfl, rfl, k1', rfl, vd, _, rfl, dget_of (k := Sum.inr y) hvd1 hy, rfl, ?_⟩
        refine q _ _ _ e1 f1 (by omega) fun _ => ?_
        show decide (V.int (r x) = V.int (r y)) = true ↔ (if false = true then r x < r y else r x = r y)
        rw [decide_eq_true_eq, if_neg Bool.false_ne_true]
        exact ⟨V.int.inj, congrArg V.int⟩
      | true =>
        refine rd_eqw rfl hat1 "rel" 0 (by decide +kernel) (ifF rfl ?_)
        refine rd_eqw rfl hat1 "eq" 1 (by decide +kernel) (ifF rfl ?_)
        refine rd_eqw rfl hat1 "less" 2 (by decide +kernel) (ifT rfl ?_)
        have hx := hV x (hdom x (by simp [fv]))
        have hy := hV y (hdom y (by simp [fv]))
        refine ⟨_, rfl, _, rfl, _, _, _, _, rfl, rfl, k1', rfl, vd, _, rfl, dget_of (k := Sum.inr x) hvd1 hx, _, rfl, _, rfl, _, _, _, _, rfl, rfl, k1', rfl, vd, _, rfl, dget_of (k := Sum.inr y) hvd1 hy, _, _, rfl, rfl, ?_⟩
        refine q _ _ _ e1 f1 (by omega) fun _ => ?_
        show decide (r x < r y) = true ↔ (if true = true then r x < r y else r x = r y)
        rw [decide_eq_true_eq, if_pos rfl]
    | neg g =>
      obtain ⟨a', u, e', k1', k2'⟩ := hf1
      cases e'
      refine rd_eqw rfl hat1 "rel" 0 (by decide +kernel) (ifF rfl ?_)
      refine rd_eqw rfl hat1 "eq" 1 (by decide +kernel) (ifF rfl ?_)
      refine rd_eqw rfl hat1 "less" 2 (by decide +kernel) (ifF rfl ?_)
      refine rd_eqw rfl hat1 "not" 3 (by decide +kernel) (ifT rfl ?_)
      have hd := dp_kid (f := neg g) (g := g) (by simp [kids])
      refine ⟨_, rfl, _, _, _, _, rfl, rfl, k1', rfl, _, rfl, _, rfl, _, rfl, g, _, m, rd, rk, fu, t - 1, vd, kk, r, dom, I, sg, s0, b, rfl, k2', wf, hfo, by omega, hm1, hm3, hW1, hsg, f1, hvd1, hV, hdom, by omega, fun b2 t2 H2 e4 f4 h4 hs4 => ⟨b2, rfl, ?_⟩⟩
      refine q (!b2) t2 H2 (e1.trans e4) f4 (by omega) fun h0 => ?_
      show (!b2) = true ↔ ¬ Sat I m g r
      rw [← hs4 h0]
      cases b2 <;> simp
    | jn c fs =>
      obtain ⟨a', b', us, e', k1', k2', k3'⟩ := hf1
      cases e'
      cases c with
      | false =>
        refine rd_eqw rfl hat1 "rel" 0 (by decide +kernel) (ifF rfl ?_)
        refine rd_eqw rfl hat1 "eq" 1 (by decide +kernel) (ifF rfl ?_)
        refine rd_eqw rfl hat1 "less" 2 (by decide +kernel) (ifF rfl ?_)
        refine rd_eqw rfl hat1 "not" 3 (by decide +kernel) (ifF rfl ?_)
        refine rd_eqw rfl hat1 "and" 4 (by decide +kernel) (ifF rfl ?_)
        refine rd_eqw rfl hat1 "or" 5 (by decide +kernel) (ifT rfl ?_)
        refine ⟨_, rfl, _, _, _, _, rfl, rfl, k1', rfl, b', rfl, ⟨_, k2'⟩, for_parts k2' k3' (S := [fu]) (fun dn σ H' => (∃ o4 o5 o6, σ = [some (.ref a), some (.int (m : Nat)), some (.ref rd), some (.ref vd), o4, o5, o6]) ∧ Ext [fu] H1 H' ∧ ∃ t' : Int, H' fu = some (.lst [.int t']) ∧ t' ≤ t - 1 ∧ (0 ≤ t' → ∀ g ∈ dn, Sat I m g r ↔ false = true)) ⟨⟨_, _, _, rfl⟩, .refl, t - 1, f1, Int.le_refl _, fun _ => by simp⟩ (fun _ _ _ z => z.2.1)
          (fun dn x r' u σ H' hk hx ⟨⟨o4, o5, o6, e⟩, e3, t', f3, h3, hs⟩ => ?_) (fun σ H' ⟨⟨o4, o5, o6, e⟩, e3, t', f3, h3, hs⟩ => ?_)⟩
        · subst e
          have hxk : x ∈ fs := by rw [hk]; simp
          have hd := dp_kid (f := jn false fs) (g := x) hxk
          have E3 := e1.trans e3
          refine ⟨_, rfl, _, rfl, _, rfl, _, rfl, x, _, m, rd, rk, fu, t', vd, kk, r, dom, I, sg, s0, b, rfl, hx, wfs_all.mp wf.2 x hxk, fos_all.mp hfo x hxk, by omega, hm1, hm3, hW.get E3, fun z hz => hsg z (mem_sys.mpr ⟨x, hxk, hz⟩), f3, E3.get hvd (by simp [hvf]), hV, fun z hz => hdom z (mem_fvs.mpr ⟨x, hxk, hz⟩), by omega, fun b2 t2 H2 e4 f4 h4 hs4 => ?_⟩
          have hat2 := (e3.trans e4).tup hat1
          refine ⟨_, rfl, _, _, _, _, rfl, rfl, hat2, at_zero, rfl, ?_⟩
          rw [show decide (V.str (wd (jn false fs)) = V.str "and") = false from (wd_eq "and" 4 (by decide +kernel)).trans rfl]
          cases b2 with
          | false =>
            refine ⟨rfl, _, rfl, ifF rfl ?_⟩
            refine ⟨⟨_, _, _, rfl⟩, e3.trans e4, t2, f4, by omega, fun h0 g hg => ?_⟩
            rcases List.mem_append.mp hg with z | z
            · exact hs (by omega) g z
            · rw [List.mem_singleton.mp z]
              exact (hs4 h0).symm.trans (by simp)
          | true =>
            refine ⟨rfl, _, rfl, ifT rfl ?_⟩
            refine ⟨_, rfl, _, _, _, _, rfl, rfl, hat2, at_zero, rfl, ?_⟩
            refine q _ _ _ (E3.trans e4) f4 (by omega) fun h0 => ?_
            rw [show decide (V.str (wd (jn false fs)) = V.str "or") = true from (wd_eq "or" 5 (by decide +kernel)).trans rfl]
            have z := hs4 h0
            refine ⟨fun _ => ?_, fun _ => rfl⟩
            show SatO I m fs r
            exact satO_ex.mpr ⟨x, hxk, z.mp rfl⟩
        · subst e
          have hat2 := e3.tup hat1
          refine ⟨_, rfl, _, _, _, _, rfl, rfl, hat2, at_zero, rfl, ?_⟩
          refine q _ _ _ (e1.trans e3) f3 (by omega) fun h0 => ?_
          rw [show decide (V.str (wd (jn false fs)) = V.str "and") = false from (wd_eq "and" 4 (by decide +kernel)).trans rfl]
          have hs := hs h0
          refine ⟨fun h => (by cases h), fun h => ?_⟩
          have h : SatO I m fs r := h
          obtain ⟨g, hg, h⟩ := satO_ex.mp h
          exact (hs g hg).mp h
      | true =>
        refine rd_eqw rfl hat1 "rel" 0 (by decide +kernel) (ifF rfl ?_)
        refine rd_eqw rfl hat1 "eq" 1 (by decide +kernel) (ifF rfl ?_)
        refine rd_eqw rfl hat1 "less" 2 (by decide +kernel) (ifF rfl ?_)
        refine rd_eqw rfl hat1 "not" 3 (by decide +kernel) (ifF rfl ?_)
        refine rd_eqw rfl hat1 "and" 4 (by decide +kernel) (ifT rfl (ifT rfl ?_))
        refine ⟨_, rfl, _, _, _, _, rfl, rfl, k1', rfl, b', rfl, ⟨_, k2'⟩, for_parts k2' k3' (S := [fu]) (fun dn σ H' => (∃ o4 o5 o6, σ = [some (.ref a), some (.int (m : Nat)), some (.ref rd), some (.ref vd), o4, o5, o6]) ∧ Ext [fu] H1 H' ∧ ∃ t' : Int, H' fu = some (.lst [.int t']) ∧ t' ≤ t - 1 ∧ (0 ≤ t' → ∀ g ∈ dn, Sat I m g r ↔ true = true)) ⟨⟨_, _, _, rfl⟩, .refl, t - 1, f1, Int.le_refl _, fun _ => by simp⟩ (fun _ _ _ z => z.2.1)
          (fun dn x r' u σ H' hk hx ⟨⟨o4, o5, o6, e⟩, e3, t', f3, h3, hs⟩ => ?_) (fun σ H' ⟨⟨o4, o5, o6, e⟩, e3, t', f3, h3, hs⟩ => ?_)⟩
        · subst e
          have hxk : x ∈ fs := by rw [hk]; simp
          have hd := dp_kid (f := jn true fs) (g := x) hxk
          have E3 := e1.trans e3
          refine ⟨_, rfl, _, rfl, _, rfl, _, rfl, x, _, m, rd, rk, fu, t', vd, kk, r, dom, I, sg, s0, b, rfl, hx, wfs_all.mp wf.2 x hxk, fos_all.mp hfo x hxk, by omega, hm1, hm3, hW.get E3, fun z hz => hsg z (mem_sys.mpr ⟨x, hxk, hz⟩), f3, E3.get hvd (by simp [hvf]), hV, fun z hz => hdom z (mem_fvs.mpr ⟨x, hxk, hz⟩), by omega, fun b2 t2 H2 e4 f4 h4 hs4 => ?_⟩
          have hat2 := (e3.trans e4).tup hat1
          refine ⟨_, rfl, _, _, _, _, rfl, rfl, hat2, at_zero, rfl, ?_⟩
          rw [show decide (V.str (wd (jn true fs)) = V.str "and") = true from (wd_eq "and" 4 (by decide +kernel)).trans rfl]
          cases b2 with
          | true =>
            refine ⟨rfl, _, rfl, ifF rfl ?_⟩
            refine ⟨⟨_, _, _, rfl⟩, e3.trans e4, t2, f4, by omega, fun h0 g hg => ?_⟩
            rcases List.mem_append.mp hg with z | z
            · exact hs (by omega) g z
            · rw [List.mem_singleton.mp z]
              exact (hs4 h0).symm.trans (by simp)
          | false =>
            refine ⟨rfl, _, rfl, ifT rfl ?_⟩
            refine ⟨_, rfl, _, _, _, _, rfl, rfl, hat2, at_zero, rfl, ?_⟩
            refine q _ _ _ (E3.trans e4) f4 (by omega) fun h0 => ?_
            rw [show decide (V.str (wd (jn true fs)) = V.str "or") = false from (wd_eq "or" 5 (by decide +kernel)).trans rfl]
            have z := hs4 h0
            have nx : ¬ Sat I m x r := fun h => by have := z.mpr h; cases this
            refine ⟨fun h => (by cases h), fun h => ?_⟩
            have h : SatA I m fs r := h
            exact (nx (satA_all.mp h x hxk)).elim
        · subst e
          have hat2 := e3.tup hat1
          refine ⟨_, rfl, _, _, _, _, rfl, rfl, hat2, at_zero, rfl, ?_⟩
          refine q _ _ _ (e1.trans e3) f3 (by omega) fun h0 => ?_
          rw [show decide (V.str (wd (jn true fs)) = V.str "and") = true from (wd_eq "and" 4 (by decide +kernel)).trans rfl]
          have hs := hs h0
          refine ⟨fun _ => ?_, fun _ => rfl⟩
          show SatA I m fs r
          exact satA_all.mpr fun g hg => (hs g hg).mpr rfl
    | qu c vs' g =>
      obtain ⟨a', b', u, e', k1', k2', k3'⟩ := hf1
      cases e'
      cases c with
      | false =>
        refine rd_eqw rfl hat1 "rel" 0 (by decide +kernel) (ifF rfl ?_)
        refine rd_eqw rfl hat1 "eq" 1 (by decide +kernel) (ifF rfl ?_)
        refine rd_eqw rfl hat1 "less" 2 (by decide +kernel) (ifF rfl ?_)
        refine rd_eqw rfl hat1 "not" 3 (by decide +kernel) (ifF rfl ?_)
        refine rd_eqw rfl hat1 "and" 4 (by decide +kernel) (ifF rfl ?_)
        refine rd_eqw rfl hat1 "or" 5 (by decide +kernel) (ifF rfl ?_)
        refine rd_eqw rfl hat1 "some" 6 (by decide +kernel) (ifT rfl (ifT rfl ?_))
        have hvl : (sv vs').length = vs'.length := List.length_map _
        refine ⟨_, rfl, _, rfl, _, _, _, _, rfl, rfl, k1', rfl, _, _, rfl, .inr k2', m, vs'.length, _, by rw [hvl], rfl, hm3, wf.1.2.2.1, fun p us rows H2 e2 hp hal hrow hp0 hul => ?_⟩
        have hpf : p ≠ fu := (ne_of_none f1 hp0).symm
        have E2 := e1.trans (e2.any (T := [fu]))
        refine ⟨p, rfl, ⟨_, .inl (.inl hp)⟩, for_list (xs := us) (fun i σ H' => (∃ o4 o5 o6, σ = [some (.ref a), some (.int (m : Nat)), some (.ref rd), some (.ref vd), o4, o5, o6]) ∧ Ext [fu] H2 H' ∧ ∃ t' : Int, H' fu = some (.lst [.int t']) ∧ t' ≤ t - 1 ∧ (0 ≤ t' → ∀ row ∈ rows.take i, Sat I m g (put r vs' row) ↔ false = true)) ⟨⟨_, _, _, rfl⟩, .refl, t - 1, e2.get0 f1, Int.le_refl _, fun _ => by simp⟩ (fun i σ H' _ z => z.2.1.lst (.inl (.inl hp)) (by simp [hpf]))
          (fun i y σ H' hy ⟨⟨o4, o5, o6, e⟩, e3, t', f3, h3, hs⟩ => ?_) (fun σ H' ⟨⟨o4, o5, o6, e⟩, e3, t', f3, h3, hs⟩ => ?_)⟩
        · subst e
          obtain ⟨row, hr0, ra, rfl, hra⟩ := hal.get hy
          have hR := (hrow row).mp (List.mem_of_getElem? hr0)
          have hts := (take_step hr0).1
          have hd := dp_kid (f := qu false vs' g) (g := g) (by simp [kids])
          have E3 := E2.trans e3
          have X3 : Ext [fu] H1 H' := (e2.any (T := [fu])).trans e3
          have hw6 := wf.1.2.2.1
          refine ⟨_, rfl, _, _, _, _, rfl, rfl, X3.tup k1', rfl, _, rfl, _, rfl, _, rfl, _, rfl, _, _, _, _, rfl, rfl, X3.tup k1', rfl, _, rfl, vd, b', ra, kk, r, dom, vs', row, rfl, E3.get hvd (by simp [hvf]), hV, .inl (X3.tup k2'), e3.tup hra, hR.1.symm, by omega, fun d kk' H5 e5 hd5 hV5 hkl5 hd0 => ?_⟩
          have E5 := E3.trans (e5.any (T := [fu]))
          refine ⟨g, _, m, rd, rk, fu, t', d, kk', put r vs' row, dom ++ vs', I, sg, s0, b, rfl, Rp.ext ((X3.trans (e5.any (T := [fu])))) g k3', wf.2, hfo, by omega, hm1, hm3, hW.get E5, hsg, e5.get0 f3, hd5, hV5, fun z hz => ?_, by omega, fun b2 t2 H6 e6 f6 h6 hs6 => ?_⟩
          · by_cases hzv : z ∈ vs'
            · exact List.mem_append_right _ hzv
            · exact List.mem_append_left _ (hdom z (by simp [fv, hz, hzv]))
          have X6 := X3.trans ((e5.any (T := [fu])).trans e6)
          have hat2 := X6.tup hat1
          refine ⟨_, rfl, _, _, _, _, rfl, rfl, hat2, at_zero, rfl, ?_⟩
          rw [show decide (V.str (wd (qu false vs' g)) = V.str "some") = true from (wd_eq "some" 6 (by decide +kernel)).trans rfl]
          cases b2 with
          | false =>
            refine ⟨rfl, _, rfl, ifF rfl ?_⟩
            refine ⟨⟨_, _, _, rfl⟩, e3.trans ((e5.any (T := [fu])).trans e6), t2, f6, by omega, fun h0 row' hrow' => ?_⟩
            rw [hts] at hrow'
            rcases List.mem_append.mp hrow' with z | z
            · exact hs (by omega) row' z
            · rw [List.mem_singleton.mp z]
              exact (hs6 h0).symm.trans (by simp)
          | true =>
            refine ⟨rfl, _, rfl, ifT rfl ?_⟩
            refine ⟨_, rfl, _, _, _, _, rfl, rfl, hat2, at_zero, rfl, ?_⟩
            refine q _ _ _ (e1.trans X6) f6 (by omega) fun h0 => ?_
            rw [show decide (V.str (wd (qu false vs' g)) = V.str "some") = true from (wd_eq "some" 6 (by decide +kernel)).trans rfl]
            have z := hs6 h0
            exact ⟨fun _ => ⟨row, hR, z.mp rfl⟩, fun _ => rfl⟩
        · subst e
          have X3 : Ext [fu] H1 H' := (e2.any (T := [fu])).trans e3
          have hat2 := X3.tup hat1
          refine ⟨_, rfl, _, _, _, _, rfl, rfl, hat2, at_zero, rfl, ?_⟩
          refine q _ _ _ (e1.trans X3) f3 (by omega) fun h0 => ?_
          rw [show decide (V.str (wd (qu false vs' g)) = V.str "all") = false from (wd_eq "all" 7 (by decide +kernel)).trans rfl]
          have hs := hs h0
          rw [hal.length, List.take_length] at hs
          refine ⟨fun h => (by cases h), fun ⟨row, hR, h⟩ => (hs row ((hrow row).mpr hR)).mp h⟩
      | true =>
        refine rd_eqw rfl hat1 "rel" 0 (by decide +kernel) (ifF rfl ?_)
        refine rd_eqw rfl hat1 "eq" 1 (by decide +kernel) (ifF rfl ?_)
        refine rd_eqw rfl hat1 "less" 2 (by decide +kernel) (ifF rfl ?_)
        refine rd_eqw rfl hat1 "not" 3 (by decide +kernel) (ifF rfl ?_)
        refine rd_eqw rfl hat1 "and" 4 (by decide +kernel) (ifF rfl ?_)
        refine rd_eqw rfl hat1 "or" 5 (by decide +kernel) (ifF rfl ?_)
        refine rd_eqw rfl hat1 "some" 6 (by decide +kernel) (ifF rfl ?_)
        refine rd_eqw rfl hat1 "all" 7 (by decide +kernel) (ifT rfl ?_)
        have hvl : (sv vs').length = vs'.length := List.length_map _
        refine ⟨_, rfl, _, rfl, _, _, _, _, rfl, rfl, k1', rfl, _, _, rfl, .inr k2', m, vs'.length, _, by rw [hvl], rfl, hm3, wf.1.2.2.1, fun p us rows H2 e2 hp hal hrow hp0 hul => ?_⟩
        have hpf : p ≠ fu := (ne_of_none f1 hp0).symm
        have E2 := e1.trans (e2.any (T := [fu]))
        refine ⟨p, rfl, ⟨_, .inl (.inl hp)⟩, for_list (xs := us) (fun i σ H' => (∃ o4 o5 o6, σ = [some (.ref a), some (.int (m : Nat)), some (.ref rd), some (.ref vd), o4, o5, o6]) ∧ Ext [fu] H2 H' ∧ ∃ t' : Int, H' fu = some (.lst [.int t']) ∧ t' ≤ t - 1 ∧ (0 ≤ t' → ∀ row ∈ rows.take i, Sat I m g (put r vs' row) ↔ true = true)) ⟨⟨_, _, _, rfl⟩, .refl, t - 1, e2.get0 f1, Int.le_refl _, fun _ => by simp⟩ (fun i σ H' _ z => z.2.1.lst (.inl (.inl hp)) (by simp [hpf]))
          (fun i y σ H' hy ⟨⟨o4, o5, o6, e⟩, e3, t', f3, h3, hs⟩ => ?_) (fun σ H' ⟨⟨o4, o5, o6, e⟩, e3, t', f3, h3, hs⟩ => ?_)⟩
        · subst e
          obtain ⟨row, hr0, ra, rfl, hra⟩ := hal.get hy
          have hR := (hrow row).mp (List.mem_of_getElem? hr0)
          have hts := (take_step hr0).1
          have hd := dp_kid (f := qu true vs' g) (g := g) (by simp [kids])
          have E3 := E2.trans e3
          have X3 : Ext [fu] H1 H' := (e2.any (T := [fu])).trans e3
          have hw6 := wf.1.2.2.1
          refine ⟨_, rfl, _, _, _, _, rfl, rfl, X3.tup k1', rfl, _, rfl, _, rfl, _, rfl, _, rfl, _, _, _, _, rfl, rfl, X3.tup k1', rfl, _, rfl, vd, b', ra, kk, r, dom, vs', row, rfl, E3.get hvd (by simp [hvf]), hV, .inl (X3.tup k2'), e3.tup hra, hR.1.symm, by omega, fun d kk' H5 e5 hd5 hV5 hkl5 hd0 => ?_⟩
          have E5 := E3.trans (e5.any (T := [fu]))
          refine ⟨g, _, m, rd, rk, fu, t', d, kk', put r vs' row, dom ++ vs', I, sg, s0, b, rfl, Rp.ext ((X3.trans (e5.any (T := [fu])))) g k3', wf.2, hfo, by omega, hm1, hm3, hW.get E5, hsg, e5.get0 f3, hd5, hV5, fun z hz => ?_, by omega, fun b2 t2 H6 e6 f6 h6 hs6 => ?_⟩
          · by_cases hzv : z ∈ vs'
            · exact List.mem_append_right _ hzv
            · exact List.mem_append_left _ (hdom z (by simp [fv, hz, hzv]))
          have X6 := X3.trans ((e5.any (T := [fu])).trans e6)
          have hat2 := X6.tup hat1
          refine ⟨_, rfl, _, _, _, _, rfl, rfl, hat2, at_zero, rfl, ?_⟩
          rw [show decide (V.str (wd (qu true vs' g)) = V.str "some") = false from (wd_eq "some" 6 (by decide +kernel)).trans rfl]
          cases b2 with
          | true =>
            refine ⟨rfl, _, rfl, ifF rfl ?_⟩
            refine ⟨⟨_, _, _, rfl⟩, e3.trans ((e5.any (T := [fu])).trans e6), t2, f6, by omega, fun h0 row' hrow' => ?_⟩
            rw [hts] at hrow'
            rcases List.mem_append.mp hrow' with z | z
            · exact hs (by omega) row' z
            · rw [List.mem_singleton.mp z]
              exact (hs6 h0).symm.trans (by simp)
          | false =>
            refine ⟨rfl, _, rfl, ifT rfl ?_⟩
            refine ⟨_, rfl, _, _, _, _, rfl, rfl, hat2, at_zero, rfl, ?_⟩
            refine q _ _ _ (e1.trans X6) f6 (by omega) fun h0 => ?_
            rw [show decide (V.str (wd (qu true vs' g)) = V.str "some") = false from (wd_eq "some" 6 (by decide +kernel)).trans rfl]
            have z := hs6 h0
            have nx : ¬ Sat I m g (put r vs' row) := fun h => by have := z.mpr h; cases this
            exact ⟨fun h => (by cases h), fun h => (nx (h row hR)).elim⟩
        · subst e
          have X3 : Ext [fu] H1 H' := (e2.any (T := [fu])).trans e3
          have hat2 := X3.tup hat1
          refine ⟨_, rfl, _, _, _, _, rfl, rfl, hat2, at_zero, rfl, ?_⟩
          refine q _ _ _ (e1.trans X3) f3 (by omega) fun h0 => ?_
          rw [show decide (V.str (wd (qu true vs' g)) = V.str "all") = true from (wd_eq "all" 7 (by decide +kernel)).trans rfl]
          have hs := hs h0
          rw [hal.length, List.take_length] at hs
          exact ⟨fun _ row hR => (hs row ((hrow row).mpr hR)).mpr rfl, fun _ => rfl⟩
    | fx l m vs g args => cases hfo
    | tc vs g args => cases hfo
    | gs m ar g => cases hfo
end
end Say
set_option maxRecDepth 100000
set_option maxHeartbeats 4000000
/-! the law: a world -/
namespace Say
open PySem PySem.Spec PyProof.Rows L2 Fm
section
variable {P : Program} {w : World} {K : PySem.W.Frag} {mg : Str → Option Value} {base : Heap} {f : Addr} {B : Nat}
def spSubset (K : PySem.W.Frag) : L2.Sp := fun vs H Q _ => ∃ dr l a us rows, vs = [.ref dr, .ref a] ∧ Dr H dr l ∧ dr ≠ l ∧ H a = some (.lst us) ∧ a ≠ dr ∧ All2 (Rw K H) rows us ∧ us.length ≤ 1000 ∧
  ∀ p us' rows' H', Ext [dr] H H' → Dr H' dr l → H' p = some (.lst us') → All2 (Rw K H') rows' us' → H p = none → us'.length ≤ 1000 → Q (.ref p) H'
theorem sc_law_subset : FnScope ["_law_draws", "_law_rows_here", "_law_kind", "_law_row"] ["_law_draws", "_law_rows_here"] (defScope s_law_subset) := ⟨rfl, rfl, rfl, by decide +kernel, rfl, by decide +kernel, by decide +kernel⟩
theorem hs_subset (T : Tx w K mg) (D : Dn K mg "_law_subset" s_law_subset f) (h_law_draw : Hs P w K mg base CX0 2 "_law_draw" ["_law_draws"] (spDraw K)) : Hs P w K mg base CX0 3 "_law_subset" ["_law_draws", "_law_rows_here"] (spSubset K) := by
  refine Hs.of D sc_law_subset (fun vs H Q E h => ?_) (fun _ _ _ _ _ _ us hl => match us, hl with | [_, _], _ => rfl) (fun cdv A outer s H vs Q E hr h => ?_)
  · obtain ⟨dr, l, a, us, rows, rfl, _⟩ := h
    rfl
  obtain ⟨dr, l, a, us, rows, rfl, D, ne, ha, had, hal, hz, q⟩ := h
  refine ⟨_, PSs.nox (pss_cons (ps_set (i := 2) sc_law_subset.nd rfl (by first | exact Or.inl rfl | exact Or.inr rfl) (pe_op op_mod (pe_h h_law_draw (hr.mono (by omega)) rfl pass0 (pa_cons (pv 0) pa_nil)) pe_int))
      (pss_cons (ps_if (pt_cmpR op_eq (pv 2) pe_int (nomark _)) (pss_one (ps_ret (pe_callTy call_list_of (by rfl) T.zlist (by decide +kernel) (pa_cons (pv 1) pa_nil)))) pss_nil)
      (pss_cons (ps_if (pt_cmpR op_eq (pv 2) pe_int (nomark _)) (pss_one (ps_ret (pe_lst pa_nil))) pss_nil)
      (pss_one (ps_ret (pe_lc (own := [("_law_row", 3)]) (g := gName 3) rfl sc_law_subset.nd (pi_list (pv 1)) (blkOk_by (own := [("_law_row", 3)]) (N := ["_law_draws", "_law_rows_here", "_law_kind", "_law_row"]) (sc := defScope s_law_subset) (by decide +kernel)) (fun _ _ _ _ _ => pg_name (i := 3) sc_law_subset.nd rfl (Or.inl rfl)) (fun _ _ _ _ _ => pts_one (pt_cmpR op_eq (pe_op op_mod (pe_h h_law_draw (hr.mono (by omega)) rfl pass0 (pa_cons (pv 0) pa_nil)) (pv 2)) pe_int (nomark _))) (fun _ _ _ _ _ => (pv 3)))))))), ?_⟩
  refine rd_mod 5 (by decide) rfl D ne fun k H1 hk e1 D1 => ?_
  have ha1 := e1.get ha (by simp [had])
  have hal1 := hal.mono fun p u => Rw.ext e1 p u
  refine ⟨_, rfl, rfl, _, rfl, ifB (fun hb => ?_) (fun hb => ?_)⟩
  · refine ⟨_, rfl, a, _, rfl, .inl (.inl (.inl ha1)), fun p hp => ?_⟩
    have x : Ext [] H1 (upd H1 p (.lst us)) := .new hp
    exact q p us rows _ (e1.trans x.any) (D1.get0 x) upd_same (hal1.mono fun p u => Rw.ext x p u) (e1.free p hp) hz
  · have hb := of_decide_eq_false hb
    refine ⟨_, rfl, rfl, _, rfl, ifB (fun hb2 => ?_) (fun hb2 => ?_)⟩
    · refine ⟨sz 0 rfl, fun p hp => ?_⟩
      have x : Ext [] H1 (upd H1 p (.lst [])) := .new hp
      exact q p [] [] _ (e1.trans x.any) (D1.get0 x) upd_same rfl (e1.free p hp) (Nat.zero_le _)
    · have hk0 : 0 < k := by
        rcases Nat.eq_zero_or_pos k with h | h
        · rw [h] at hb; exact absurd rfl hb
        · exact h
      refine ⟨_, rfl, a, rfl, ⟨_, .inl (.inl ha1)⟩, fun B hB => ?_⟩
      have nB : B ≠ dr := by obtain ⟨_, _, k1, _⟩ := D1; exact (ne_of_none k1 hB).symm
      have nBl : B ≠ l := by obtain ⟨_, _, _, k1, _⟩ := D1; exact (ne_of_none k1 hB).symm
      refine lc_list (xs := us) (fun i H' => ∃ zs rz, H' B = some (.lst zs) ∧ All2 (Rw K H') rz zs ∧ zs.length ≤ i ∧ Ext [dr] H1 H' ∧ Dr H' dr l) ⟨[], [], upd_same, rfl, Nat.le_refl _, .new hB, D1.get0 (.new hB)⟩ (fun i H' _ ⟨_, _, _, _, _, e, _⟩ => e.lst (.inl (.inl ha1)) (by simp [had])) (fun i u H' hu ⟨zs, rz, g1, g2, g3, g4, g5⟩ => ?_) (fun H' ⟨zs, rz, g1, g2, g3, g4, g5⟩ => ?_)
      · obtain ⟨row, hr0, hru⟩ := hal1.get hu
        have hi : i < us.length := by
          rcases Nat.lt_or_ge i us.length with a | a
          · exact a
          · rw [List.getElem?_eq_none a] at hu; cases hu
        refine ⟨rfl, ?_⟩
        refine ⟨_, rfl, dr, l, rfl, g5, ne, fun r2 H2 hr2 e2 D2 => ⟨_, rfl, _, _, rfl, rfl, (by show (0 : Int) < (k : Nat); omega), rfl, _, rfl, ?_⟩⟩
        have hB2 := e2.get g1 (by simp [nB])
        refine ifB (fun hb3 => ?_) (fun hb3 => ?_)
        · have x3 : Ext [B] H2 (upd H2 B (.lst (zs ++ [u]))) := Ext.put .refl (by simp) hB2 rfl
          refine ⟨_, rfl, zs, hB2, big_sz (by omega), zs ++ [u], rz ++ [row], upd_same, ?_, by simp; omega, (g4.trans e2).mut hB, D2.get x3 (by simp [nB.symm]) (by simp [nBl.symm])⟩
          exact ((g2.mono fun p u => Rw.ext e2 p u).app (All2.one (Rw.ext (g4.trans e2) _ _ hru))).mono fun p u => Rw.ext x3 p u
        · exact ⟨zs, rz, hB2, g2.mono fun p u => Rw.ext e2 p u, by omega, g4.trans e2, D2⟩
      · exact q B zs rz H' (e1.trans g4) g5 g1 g2 (e1.free B hB) (by omega)
def Sg (K : PySem.W.Frag) (H : Hp) (p : Str × List (List Int)) (u : V) : Prop := ∃ a b zs k, u = .ref a ∧ SqT K H a [.str p.1, .int k, .ref b] ∧ SqT K H b zs ∧ All2 (Rw K H) p.2 zs ∧ zs.length ≤ 1000
theorem Sg.ext {S : List Addr} {H H1 : Hp} (x : Ext S H H1) (p : Str × List (List Int)) (u : V) (h : Sg K H p u) : Sg K H1 p u := by
  obtain ⟨a, b, zs, k, e, h1, h2, h3, h4⟩ := h
  exact ⟨a, b, zs, k, e, x.tup h1, x.tup h2, h3.mono fun p u => Rw.ext x p u, h4⟩
def spWorld (K : PySem.W.Frag) : L2.Sp := fun vs H Q _ => ∃ dr l, ∃ n : Nat, vs = [.ref dr, .int (n : Nat)] ∧ Dr H dr l ∧ dr ≠ l ∧ n ≤ 3 ∧
  ∀ p us sg H', Ext [dr] H H' → Dr H' dr l → H' p = some (.lst us) → All2 (Sg K H') sg us → sg.map (·.1) = (["e", "p", "q"] : List Str) → H p = none → Q (.ref p) H'
theorem sc_law_world : FnScope ["_law_draws", "_law_n", "_law_signs", "_law_name", "_law_arity"] ["_law_draws", "_law_n"] (defScope s_law_world) := ⟨rfl, rfl, rfl, by decide +kernel, rfl, by decide +kernel, by decide +kernel⟩
theorem hs_world (T : Tx w K mg) (D : Dn K mg "_law_world" s_law_world f) (h_law_subset : Hs P w K mg base CX0 3 "_law_subset" ["_law_draws", "_law_rows_here"] (spSubset K)) (h_law_tuples : Hs P w K mg base CX0 1 "_law_tuples" ["_law_n", "_law_width"] (spTuples K)) : Hs P w K mg base CX0 4 "_law_world" ["_law_draws", "_law_n"] (spWorld K) := by
  refine Hs.of D sc_law_world (fun vs H Q E h => ?_) (fun _ _ _ _ _ _ us hl => match us, hl with | [_, _], _ => rfl) (fun cdv A outer s H vs Q E hr h => ?_)
  · obtain ⟨dr, l, n, rfl, _⟩ := h
    rfl
  obtain ⟨dr, l, n, rfl, D, ne, hn, q⟩ := h
  refine ⟨_, PSs.nox (pss_cons (ps_set (i := 2) sc_law_world.nd rfl (by first | exact Or.inl rfl | exact Or.inr rfl) (pe_lst (pa_cons (pe_tup (pa_cons pe_str (pa_cons pe_int pa_nil))) (pa_cons (pe_tup (pa_cons pe_str (pa_cons pe_int pa_nil))) (pa_cons (pe_tup (pa_cons pe_str (pa_cons pe_int pa_nil))) pa_nil)))))
      (pss_one (ps_ret (pe_lc (own := [("_law_name", 3), ("_law_arity", 4)]) (g := _) rfl sc_law_world.nd (pi_list (pv 2)) (blkOk_by (own := [("_law_name", 3), ("_law_arity", 4)]) (N := ["_law_draws", "_law_n", "_law_signs", "_law_name", "_law_arity"]) (sc := defScope s_law_world) (by decide +kernel)) (fun _ _ _ _ _ => (pg_tupB (K := K) (n := 2) rfl rfl (pgs_cons (pg_name (i := 3) sc_law_world.nd rfl (by first | exact Or.inl rfl | exact Or.inr rfl)) (pgs_cons (pg_name (i := 4) sc_law_world.nd rfl (by first | exact Or.inl rfl | exact Or.inr rfl)) pgs_nil)))) (fun _ _ _ _ _ => pts_nil) (fun _ _ _ _ _ => (pe_tup (pa_cons (pv 3) (pa_cons (pv 4) (pa_cons (pe_callTy (call_tuple_ofB (K := K) rfl) (by rfl) T.ztuple (by decide +kernel) (pa_cons (pe_h h_law_subset (hr.mono (by omega)) rfl pass0 (pa_cons (pv 0) (pa_cons (pe_h h_law_tuples (hr.mono (by omega)) rfl pass0 (pa_cons (pv 1) (pa_cons (pv 4) pa_nil))) pa_nil))) pa_nil)) pa_nil))))))))), ?_⟩
  refine ⟨sz 2 rfl, fun p1 h1 => ⟨sz 2 rfl, fun p2 h2 => ⟨sz 2 rfl, fun p3 h3 => ⟨sz 3 rfl, fun p4 h4 => ?_⟩⟩⟩⟩
  have e1 : Ext [] H (upd H p1 (.tup [.str "e", .int 2])) := .new h1
  have x2 := Ext.new (S := []) (o := .tup [.str "p", .int 1]) h2
  have x3 := Ext.new (S := []) (o := .tup [.str "q", .int 0]) h3
  have x4 := Ext.new (S := []) (o := .lst [.ref p1, .ref p2, .ref p3]) h4
  have E4 := e1.trans (x2.trans (x3.trans x4))
  have n4 : p4 ≠ dr := by obtain ⟨_, _, k1, _⟩ := D; exact (ne_of_none ((e1.trans (x2.trans x3)).get0 k1) h4).symm
  have D4 := D.get0 E4
  have t1 : SqT K _ p1 [.str "e", .int 2] := x4.tup (x3.tup (x2.tup (SqT.of upd_same)))
  have t2 : SqT K _ p2 [.str "p", .int 1] := x4.tup (x3.tup (SqT.of upd_same))
  have t3 : SqT K _ p3 [.str "q", .int 0] := x4.tup (SqT.of upd_same)
  have l4 : upd (upd (upd (upd H p1 (.tup [.str "e", .int 2])) p2 (.tup [.str "p", .int 1])) p3 (.tup [.str "q", .int 0])) p4 (.lst [.ref p1, .ref p2, .ref p3]) p4 = some (.lst [.ref p1, .ref p2, .ref p3]) := upd_same
  generalize hH4 : upd (upd (upd (upd H p1 (.tup [.str "e", .int 2])) p2 (.tup [.str "p", .int 1])) p3 (.tup [.str "q", .int 0])) p4 (.lst [.ref p1, .ref p2, .ref p3]) = H4 at E4 D4 t1 t2 t3 l4
  refine ⟨_, rfl, p4, rfl, ⟨_, .inl (.inl l4)⟩, fun B hB => ?_⟩
  have nB : B ≠ dr := by obtain ⟨_, _, k1, _⟩ := D4; exact (ne_of_none k1 hB).symm
  have nBl : B ≠ l := by obtain ⟨_, _, _, k1, _⟩ := D4; exact (ne_of_none k1 hB).symm
  refine lc_list (xs := [.ref p1, .ref p2, .ref p3]) (fun i H' => ∃ zs sg, H' B = some (.lst zs) ∧ All2 (Sg K H') sg zs ∧ sg.map (·.1) = (["e", "p", "q"] : List Str).take i ∧ zs.length ≤ i ∧ Ext [dr] H4 H' ∧ Dr H' dr l) ⟨[], [], upd_same, rfl, rfl, Nat.le_refl _, .new hB, D4.get0 (.new hB)⟩ (fun i H' _ ⟨_, _, _, _, _, _, e, _⟩ => e.lst (.inl (.inl l4)) (by simp [n4])) (fun i u H' hu ⟨zs, sg, g1, g2, g3, g4, g5, g6⟩ => ?_) (fun H' ⟨zs, sg, g1, g2, g3, g4, g5, g6⟩ => ?_)
  · have hi3 : i = 0 ∨ i = 1 ∨ i = 2 := by
      rcases Nat.lt_or_ge i 3 with a | a
      · omega
      · rw [List.getElem?_eq_none (by show 3 ≤ i; exact a)] at hu; cases hu
    have hu' : ∃ p nm, ∃ k : Nat, u = .ref p ∧ SqT K H' p [.str nm, .int (k : Nat)] ∧ k ≤ 2 ∧ (["e", "p", "q"] : List Str).take (i + 1) = (["e", "p", "q"] : List Str).take i ++ [nm] := by
      rcases hi3 with h | h | h
      · subst h
        exact ⟨p1, "e", 2, by simpa using hu.symm, g5.tup t1, by omega, rfl⟩
      · subst h
        exact ⟨p2, "p", 1, by simpa using hu.symm, g5.tup t2, by omega, rfl⟩
      · subst h
        exact ⟨p3, "q", 0, by simpa using hu.symm, g5.tup t3, by omega, rfl⟩
    obtain ⟨p, nm, k, rfl, hp, hk2, hts⟩ := hu'
    refine ⟨_, _, rfl, hp, rfl, _, _, rfl, _, _, rfl, rfl, rfl, ?_⟩
    refine ⟨_, rfl, _, rfl, _, rfl, _, rfl, _, rfl, n, k, _, rfl, rfl, hn, by omega, fun p5 us rows H5 e5 hp5 hal5 hm5 hp50 hul5 => ?_⟩
    have hp5d : p5 ≠ dr := by obtain ⟨_, _, k1, _⟩ := g6; exact (ne_of_none k1 hp50).symm
    refine ⟨dr, l, p5, us, rows, rfl, g6.get0 e5, ne, hp5, hp5d, hal5, hul5, fun p6 us6 rows6 H6 e6 D6 hp6 hal6 hp60 hul6 => ?_⟩
    refine ⟨p6, _, rfl, .inl ⟨.inl (.inl hp6), fun p7 hp7 => ⟨sz 3 rfl, fun p8 hp8 => ?_⟩⟩⟩
    have x7 : Ext [] H6 (upd H6 p7 (.tup us6)) := .new hp7
    have x8 := Ext.new (S := []) (o := .tup [.str nm, .int (k : Nat), .ref p7]) hp8
    have X := x7.trans x8
    have E6 : Ext [dr] H' H6 := (e5.any (T := [dr])).trans e6
    have hB8 := X.get0 (E6.get g1 (by simp [nB]))
    have x9 : Ext [B] _ (upd (upd (upd H6 p7 (.tup us6)) p8 (.tup [.str nm, .int (k : Nat), .ref p7])) B (.lst (zs ++ [.ref p8]))) := Ext.put .refl (by simp) hB8 rfl
    refine ⟨zs, hB8, big_sz (by omega), zs ++ [.ref p8], sg ++ [(nm, rows6)], upd_same, ?_, by rw [List.map_append, g3, hts]; rfl, by simp; omega, ((g5.trans E6).trans (X.any (T := [dr]))).mut hB, (D6.get0 X).get x9 (by simp [nB.symm]) (by simp [nBl.symm])⟩
    refine (g2.mono fun p u h => Sg.ext x9 p u (Sg.ext X p u (Sg.ext E6 p u h))).app (All2.one ⟨p8, p7, us6, _, rfl, x9.tup (SqT.of upd_same), x9.tup (x8.tup (SqT.of upd_same)), hal6.mono fun p u h => Rw.ext x9 p u (Rw.ext X p u h), hul6⟩)
  · exact q B zs sg H' ((E4.any (T := [dr])).trans g5) g6 g1 g2 g3 (E4.free B hB)
def spRowsL (K : PySem.W.Frag) : L2.Sp := fun vs H Q _ => ∃ a us sg, vs = [.ref a] ∧ SqL K H a us ∧ All2 (Sg K H) sg us ∧ sg.map (·.1) = (["e", "p", "q"] : List Str) ∧
  ∀ rd rk fu I H', Ext [] H H' → Wo K H' rd rk fu I ["e", "p", "q"] → H' fu = some (.lst [.int 40000]) → H rd = none → H fu = none → Q (.ref rd) H'
theorem sc_law_rows : FnScope ["_law_relations", "_law_rows_here", "_law_name", "_law_arity", "_law_here"] ["_law_relations"] (defScope s_law_rows) := ⟨rfl, rfl, rfl, by decide +kernel, rfl, by decide +kernel, by decide +kernel⟩
theorem hs_rows (T : Tx w K mg) (D : Dn K mg "_law_rows" s_law_rows f) : Hs P w K mg base CX0 1 "_law_rows" ["_law_relations"] (spRowsL K) := by
  refine Hs.of D sc_law_rows (fun vs H Q E h => ?_) (fun _ _ _ _ _ _ us hl => match us, hl with | [_], _ => rfl) (fun cdv A outer s H vs Q E hr h => ?_)
  · obtain ⟨a, us, sg, rfl, _⟩ := h
    rfl
  obtain ⟨a, us, sg, rfl, ha, hal, hnm, q⟩ := h
  refine ⟨_, PSs.nox (pss_cons (ps_set (i := 1) sc_law_rows.nd rfl (by first | exact Or.inl rfl | exact Or.inr rfl) (pe_disp (pps_cons pe_str (pe_lst (pa_cons pe_int pa_nil)) pps_nil) (by rfl) (by rfl) (fun z => by cases z) (by decide)))
      (pss_cons (ps_for PassesOwn.never rfl (pi_list (pv 0)) (pg_tup rfl (pgs_cons (pg_name (i := 2) sc_law_rows.nd rfl (by first | exact Or.inl rfl | exact Or.inr rfl)) (pgs_cons (pg_name (i := 3) sc_law_rows.nd rfl (by first | exact Or.inl rfl | exact Or.inr rfl)) (pgs_cons (pg_name (i := 4) sc_law_rows.nd rfl (by first | exact Or.inl rfl | exact Or.inr rfl)) pgs_nil)))) (pss_one (ps_dput (hu_of hr) (pv 1) (pv 2) (pe_callTy call_list_of (by rfl) T.zlist (by decide +kernel) (pa_cons (pv 4) pa_nil)) rfl)))
      (pss_one (ps_ret (pv 1))))), ?_⟩
  intro rd hrd
  refine ⟨sz 1 rfl, fun fu hfu => ?_⟩
  have e1 : Ext [] H (upd H rd (.dK [])) := .new hrd
  have x2 : Ext [] (upd H rd (.dK [])) (upd (upd H rd (.dK [])) fu (.lst [.int 40000])) := .new hfu
  have hne : rd ≠ fu := ne_of_none (o := .dK []) upd_same hfu
  have hfu0 := e1.free fu hfu
  refine ⟨x2.get0 upd_same, [(Sum.inr "", .ref fu)], rfl, by show 1 ≤ 15; decide, ?_⟩
  have E2 : Ext [] H (upd (upd (upd H rd (.dK [])) fu (.lst [.int 40000])) rd (.dK [(Sum.inr "", .ref fu)])) := (e1.trans x2).mut hrd
  have r2 : upd (upd (upd H rd (.dK [])) fu (.lst [.int 40000])) rd (.dK [(Sum.inr "", .ref fu)]) rd = some (.dK [(Sum.inr "", .ref fu)]) := upd_same
  have f2 : upd (upd (upd H rd (.dK [])) fu (.lst [.int 40000])) rd (.dK [(Sum.inr "", .ref fu)]) fu = some (.lst [.int 40000]) := (upd_ne hne.symm).trans upd_same
  have had := fun {H'} (x : Ext [] H H') => x.lst0 ha
  refine ⟨_, rfl, a, rfl, ⟨_, had E2⟩, for_list (xs := us) (fun i σ H' => (∃ o2 o3 o4, σ = [some (.ref a), some (.ref rd), o2, o3, o4]) ∧ Ext [] H H' ∧ H' fu = some (.lst [.int 40000]) ∧ ∃ kk, H' rd = some (.dK kk) ∧ valV kk (Sum.inr "") = some (.ref fu) ∧ kk.length ≤ 1 + i ∧
      ∀ s ∈ sg.take i, ∃ a us, valV kk (Sum.inr s.1) = some (.ref a) ∧ H' a = some (.lst us) ∧ All2 (Rw K H') s.2 us ∧ a ≠ fu) ⟨⟨_, _, _, rfl⟩, E2, f2, _, r2, rfl, Nat.le_refl _, by simp⟩ (fun i σ H' _ z => had z.2.1)
    (fun i u σ H' hu ⟨⟨o2, o3, o4, e⟩, e3, f3, kk, g1, g2, g3, g4⟩ => ?_) (fun σ H' ⟨⟨o2, o3, o4, e⟩, e3, f3, kk, g1, g2, g3, g4⟩ => ?_)⟩
  · subst e
    obtain ⟨s, hs, hsu⟩ := hal.get hu
    obtain ⟨p, b, zs, k, rfl, h1, h2, h3, h4⟩ := hsu.ext e3
    have hul : us.length = 3 := by
      rw [hal.length, ← List.length_map (f := (·.1)), hnm]
      rfl
    have hi : i < us.length := by
      rcases Nat.lt_or_ge i us.length with a | a
      · exact a
      · rw [List.getElem?_eq_none a] at hu; cases hu
    refine ⟨_, _, rfl, h1, rfl, _, _, rfl, _, _, rfl, _, _, rfl, rfl, ?_⟩
    refine ⟨_, rfl, b, _, rfl, .inr h2, fun q1 hq1 => ?_⟩
    have x4 : Ext [] H' (upd H' q1 (.lst zs)) := .new hq1
    refine ⟨_, rfl, _, rfl, rd, _, rfl, DPut.k (k := Sum.inr s.1) (x4.get0 g1) (big_sz (by omega)), ?_⟩
    have x5 : Ext [rd] H' (upd (upd H' q1 (.lst zs)) rd (.dK (putK kk (Sum.inr s.1) (.ref q1)))) := (x4.mono (T := [rd]) (by simp)).put (by simp) (x4.get0 g1) rfl
    have hrq : rd ≠ q1 := ne_of_none g1 hq1
    have hsn : s.1 ∈ (["e", "p", "q"] : List Str) := by rw [← hnm]; exact List.mem_map.mpr ⟨s, List.mem_of_getElem? hs, rfl⟩
    have hse : s.1 ≠ "" := fun h => by rw [h] at hsn; exact absurd hsn (by decide +kernel)
    have hnd : ∀ s' ∈ sg.take i, s'.1 ≠ s.1 := by
      intro s' hs' h
      have nd : (sg.map (·.1)).Nodup := by rw [hnm]; decide +kernel
      rw [(take_step hs).2, List.map_append, List.map_cons] at nd
      have := (List.nodup_append.mp nd).2.2 s'.1 (List.mem_map.mpr ⟨s', hs', rfl⟩) s.1 List.mem_cons_self
      exact this h
    refine ⟨⟨_, _, _, rfl⟩, (e3.trans x4).mut hrd, x5.get f3 (by simp [hne.symm]), _, upd_same, ?_, Nat.le_trans (length_putK _ _ _) (by omega), fun s' hs' => ?_⟩
    · rw [valV_put, if_neg fun h => hse (Sum.inr.inj h).symm]
      exact g2
    · rw [(take_step hs).1] at hs'
      rcases List.mem_append.mp hs' with m | m
      · obtain ⟨a', us', v1, v2, v3, v4⟩ := g4 s' m
        have har : a' ≠ rd := fun h => by rw [h, g1] at v2; cases v2
        refine ⟨a', us', ?_, x5.get v2 (by simp [har]), v3.mono fun p u => Rw.ext x5 p u, v4⟩
        rw [valV_put, if_neg fun h => hnd s' m (Sum.inr.inj h)]
        exact v1
      · rw [List.mem_singleton.mp m]
        refine ⟨q1, zs, by rw [valV_put, if_pos rfl], (upd_ne hrq.symm).trans upd_same, h3.mono fun p u => Rw.ext x5 p u, ?_⟩
        exact (ne_of_none f3 hq1).symm
  · subst e
    rw [hal.length, List.take_length] at g4
    have hsg : ∃ r1 r2 r3 : List (List Int), sg = ([("e", r1), ("p", r2), ("q", r3)] : List (Str × List (List Int))) := by
      match sg, hnm with
      | [(n1, r1), (n2, r2), (n3, r3)], h =>
        simp only [List.map_cons, List.map_nil, List.cons.injEq, and_true] at h
        obtain ⟨h1, h2, h3⟩ := h
        exact ⟨r1, r2, r3, by rw [h1, h2, h3]⟩
    obtain ⟨r1, r2, r3, rfl⟩ := hsg
    refine ⟨_, rfl, q rd kk fu (fun x => if x = "e" then r1 else if x = "p" then r2 else r3) H' e3 ⟨g1, g2, fun x hx => ?_, hne⟩ f3 hrd hfu0⟩
    rcases List.mem_cons.mp hx with h | hx
    · rw [h]
      exact g4 (("e" : Str), r1) (by simp)
    rcases List.mem_cons.mp hx with h | hx
    · rw [h]
      exact g4 (("p" : Str), r2) (by simp)
    · rw [List.mem_singleton.mp hx]
      exact g4 (("q" : Str), r3) (by simp)
end
end Say
set_option maxRecDepth 100000
set_option maxHeartbeats 4000000
/-! the law -/
namespace Say
open PySem PySem.Spec PyProof.Rows L2 Fm
section
variable {P : Program} {w : World} {K : PySem.W.Frag} {mg : Str → Option Value} {base : Heap} {f : Addr} {B : Nat}
/-- what the law holds on to -/
structure Cl (K : PySem.W.Frag) (H : Hp) (dr l rd : Addr) (rk : List (Key × V)) (fu : Addr) (I : Str → List (List Int)) : Prop where
  D : Dr H dr l
  ne : dr ≠ l
  W : Wo K H rd rk fu I ["e", "p", "q"]
  F : ∃ t : Int, H fu = some (.lst [.int t])
  lf : l ≠ fu
section
variable {H H1 : Hp} {dr l rd : Addr} {rk : List (Key × V)} {fu : Addr} {I : Str → List (List Int)}
theorem Cl.rdr (c : Cl K H dr l rd rk fu I) : rd ≠ dr := by
  obtain ⟨_, _, k1, _⟩ := c.D
  exact ne_of c.W.at_ k1 (by intro z; cases z)
theorem Cl.dfu (c : Cl K H dr l rd rk fu I) : dr ≠ fu := by
  obtain ⟨_, _, k1, _⟩ := c.D
  obtain ⟨t, f⟩ := c.F
  intro e
  rw [e, f] at k1
  simp at k1
theorem Cl.step0 (c : Cl K H dr l rd rk fu I) (x : Ext [] H H1) : Cl K H1 dr l rd rk fu I :=
  ⟨c.D.get0 x, c.ne, c.W.get x.any, by obtain ⟨t, f⟩ := c.F; exact ⟨t, x.get0 f⟩, c.lf⟩
theorem Cl.stepF (c : Cl K H dr l rd rk fu I) (x : Ext [fu] H H1) (F : ∃ t : Int, H1 fu = some (.lst [.int t])) : Cl K H1 dr l rd rk fu I :=
  ⟨c.D.get x (by simp [c.dfu]) (by simp [c.lf]), c.ne, c.W.get x, F, c.lf⟩
theorem Cl.stepD (c : Cl K H dr l rd rk fu I) (x : Ext [dr] H H1) (D : Dr H1 dr l) : Cl K H1 dr l rd rk fu I := by
  refine ⟨D, c.ne, ⟨x.get c.W.at_ (by simp [c.rdr]), c.W.z, fun y hy => ?_, c.W.ne⟩, by obtain ⟨t, f⟩ := c.F; exact ⟨t, x.get f (by simp [c.dfu.symm])⟩, c.lf⟩
  obtain ⟨a, us, h1, h2, h3, h4⟩ := c.W.rows y hy
  have ha : a ≠ dr := by
    obtain ⟨n, ls, k1, _⟩ := c.D
    intro e
    rw [e, k1] at h2
    have h2 : us = [.ref l, .int (n : Nat)] := by simpa using h2.symm
    rw [h2] at h3
    cases hI : I y with
    | nil =>
      rw [hI] at h3
      cases (show ([V.ref l, V.int (n : Nat)] : List V) = [] from h3)
    | cons r1 rs =>
      rw [hI] at h3
      obtain ⟨u, r, e1, _, h3⟩ := h3
      cases e1
      cases rs with
      | nil => cases (show ([V.int (n : Nat)] : List V) = [] from h3)
      | cons r2 rs =>
        obtain ⟨u, r, e1, ⟨b, hb, _⟩, _⟩ := h3
        cases e1
        cases hb
  exact ⟨a, us, h1, x.get h2 (by simp [ha]), h3.mono fun p u => Rw.ext x p u, h4⟩
end
def s00 : Str → Nat := fun x => if x = "e" then 2 else if x = "p" then 1 else 0
theorem ns0_ok (k : Nat) : NsOk s00 (fun _ => none) (ns0.take k) := fun p hp => by
  have hp := List.mem_of_mem_take hp
  have all : ∀ p ∈ ns0, nmOk p.1 ∧ p.2.1 ≤ 6 ∧ p.2.2 ≤ 3 ∧ s00 p.1 = p.2.1 := by decide +kernel
  exact all p hp
theorem ns0_small (k : Nat) : ∀ p ∈ ns0.take k, p.2.1 ≤ 100 ∧ p.2.2 ≤ 3 := fun p hp => by
  have hp := List.mem_of_mem_take hp
  have all : ∀ p ∈ ns0, p.2.1 ≤ 100 ∧ p.2.2 ≤ 3 := by decide +kernel
  exact all p hp
theorem ns0_len (k : Nat) : (ns0.take k).length ≤ 3 := List.length_take_le' k ns0
/-- what is known of a formula that was drawn, first-order -/
structure Kn (pool : List Str) (f : Fm) : Prop where
  wf : Wf s00 (fun _ => none) f
  fo : fo f = true
  pt : pt f ≤ 121
  dp : dp f ≤ 5
  fv : ∀ x ∈ fv f, x ∈ pool
  sy : ∀ x ∈ sy f, x ∈ ([("e", 2), ("p", 1), ("q", 0)] : List (Str × Nat))
  an : ∀ x ∈ an f, x ∈ pool ++ (["e", "p", "q"] : List Str)
theorem kn_of {pool : List Str} {f : Fm} {k : Nat} (hp : ∀ x ∈ pool, nmOk x) (h : Gf true pool f (ns0.take k)) (hd : dp f ≤ 5) : Kn pool f := by
  have hpt := gf_pt f _ h
  have h5 : 3 ^ dp f ≤ 3 ^ 5 := Nat.pow_le_pow_right (by decide) hd
  have e5 : (3 : Nat) ^ 5 = 243 := by decide
  have hpt2 : pt f ≤ 121 := by omega
  refine ⟨gf_wf hp f _ _ h (ns0_ok k), gf_fo f _ h, hpt2, hd, gf_fv f _ h, ?_, fun x hx => ?_⟩
  · refine gf_sy (P := fun x => x ∈ ([("e", 2), ("p", 1), ("q", 0)] : List (Str × Nat))) f _ (fun p hp => ?_) h
    have all : ∀ p ∈ ns0, (p.1, p.2.1) ∈ ([("e", 2), ("p", 1), ("q", 0)] : List (Str × Nat)) := by decide +kernel
    exact all p (List.mem_of_mem_take hp)
  · rcases gf_an f _ h x hx with h | ⟨p, hp, e⟩
    · exact List.mem_append_left _ h
    · have all : ∀ p ∈ ns0, p.1 ∈ (["e", "p", "q"] : List Str) := by decide +kernel
      rw [← e]
      exact List.mem_append_right _ (all p (List.mem_of_mem_take hp))
theorem qf_fo (f : Fm) : qf f = true → fo f = true := by
  refine ind (P := fun f => qf f = true → fo f = true) (fun f ih h => ?_) f
  cases f with
  | rel _ _ => rfl
  | cmp _ _ _ => rfl
  | neg g => exact ih g (by simp [kids]) h
  | jn c fs => exact fos_all.mpr fun g hg => ih g hg (qfs_all.mp h g hg)
  | qu c vs g => cases h
  | fx l m vs g args => cases h
  | tc vs g args => cases h
  | gs m ar g => cases h
theorem fo_wrap {r : Fm} : ∀ (hs : List Hd), fo r = true → fo (wrap hs r) = true
  | [], h => h
  | _ :: hs, h => fo_wrap hs h
def spLaw (K : PySem.W.Frag) : L2.Sp := fun vs H Q _ => ∃ a, ∃ ns : List Int, vs = [.ref a] ∧ SqL K H a (ns.map V.int) ∧ ns.length ≤ 63 ∧ ∀ H', Q (.bl true) H'
end
end Say
set_option maxRecDepth 100000
set_option maxHeartbeats 4000000
/-! the law itself -/
namespace Say
open PySem PySem.Spec PyProof.Rows L2 Fm
section
variable {P : Program} {w : World} {K : PySem.W.Frag} {mg : Str → Option Value} {base : Heap} {f : Addr} {B : Nat}
theorem newT {H : Hp} {p : Addr} {xs : List V} (h : H p = none) : Ext [] H (upd H p (.tup xs)) ∧ SqT K (upd H p (.tup xs)) p xs := ⟨.new h, .of upd_same⟩
theorem newL {H : Hp} {p : Addr} {xs : List V} (h : H p = none) : Ext [] H (upd H p (.lst xs)) ∧ upd H p (.lst xs) p = some (.lst xs) := ⟨.new h, upd_same⟩
/-- what is drawn of the four -/
structure Odd (K : PySem.W.Frag) (H : Hp) (k : Nat) (S : Fm) (v : V) : Prop where
  rp : Rp K H S v
  fo : fo S = false
  wf : Wf s00 (fun _ => none) S
  pt : pt S ≤ k
  dp : dp S ≤ k
theorem Odd.ext {Z : List Addr} {H H1 : Hp} {k : Nat} {S : Fm} {v : V} (h : Odd K H k S v) (x : Ext Z H H1) : Odd K H1 k S v := ⟨Rp.ext x _ h.rp, h.fo, h.wf, h.pt, h.dp⟩
def strange : Nat → Fm
  | 0 => tc ["x", "y"] (cmp false "x" "y") ["x", "x"]
  | 1 => fx true "r" ["x"] (rel "r" ["x"]) ["x"]
  | 2 => fx false "r" ["x"] (neg (rel "r" ["x"])) ["x"]
  | _ => gs "r" 1 (rel "r" ["x"])
theorem wf_strange (r : Nat) : Wf s00 (fun _ => none) (strange r) ∧ fo (strange r) = false ∧ pt (strange r) ≤ 10 ∧ dp (strange r) ≤ 10 := by
  have nx : nmOk "x" := by decide +kernel
  have ny : nmOk "y" := by decide +kernel
  have nr : nmOk "r" := by decide +kernel
  have r1 : Wf s00 (setb (fun _ => none) "r" 1) (rel "r" ["x"]) := ⟨nr, by simpa using nx, by decide, by decide +kernel⟩
  have v1 : (["x"] : List Str).Nodup ∧ 1 ≤ (["x"] : List Str).length ∧ (["x"] : List Str).length ≤ 6 ∧ ∀ x ∈ (["x"] : List Str), nmOk x := ⟨by decide +kernel, by decide, by decide, by simpa using nx⟩
  match r with
  | 0 => exact ⟨⟨⟨by decide +kernel, by decide, by decide, by decide, by decide +kernel⟩, ⟨rfl, by decide +kernel⟩, nx, ny⟩, rfl, by decide, by decide⟩
  | 1 => exact ⟨⟨nr, v1, ⟨rfl, by simpa using nx⟩, r1, fun _ => by decide +kernel⟩, rfl, by decide, by decide⟩
  | 2 => exact ⟨⟨nr, v1, ⟨rfl, by simpa using nx⟩, r1, fun h => (nomatch h)⟩, rfl, by decide, by decide⟩
  | n + 3 => exact ⟨⟨nr, by decide, r1⟩, rfl, (by show pt (gs "r" 1 (rel "r" ["x"])) ≤ 10; decide), (by show dp (gs "r" 1 (rel "r" ["x"])) ≤ 10; decide)⟩
theorem sc_law : FnScope ["_law_script", "_law_draws", "_law_n", "_law_rows_here", "_law_turn", "_law_pool", "_law_f", "_law_g", "_law_x", "_law_one", "_law_again", "_law_values", "_law_told", "_law_strange", "_law_bad", "_law_other"] ["_law_script"] (defScope s_law) := ⟨rfl, rfl, rfl, by decide +kernel, rfl, by decide +kernel, by decide +kernel⟩
theorem ok_law {fd : FuncData} (T : Tx w K mg) (D : FnP K "law" s_law f fd) (h_law_numbers : Hs P w K mg base CX0 2 "_law_numbers" ["_law_script"] (spNums K)) (h_law_draw : Hs P w K mg base CX0 2 "_law_draw" ["_law_draws"] (spDraw K)) (h_law_rows : Hs P w K mg base CX0 1 "_law_rows" ["_law_relations"] (spRowsL K)) (h_law_world : Hs P w K mg base CX0 4 "_law_world" ["_law_draws", "_law_n"] (spWorld K))
    (h_law_theirs : Hs P w K mg base CX0 49 "_law_theirs" [] (spTheirs K)) (h_law_formula0 : ∀ n, Hs P w K mg base CX0 (4 + 2 * n + 1) "_law_formula" ["_law_draws", "_law_deep", "_law_pool", "_law_names_here", "_law_kinds"] (spForm K true n)) (h_law_formulaF0 : ∀ n, Hs P w K mg base CX0 (4 + 2 * n + 1) "_law_formula" ["_law_draws", "_law_deep", "_law_pool", "_law_names_here", "_law_kinds"] (spForm K false n)) (h_law_names : Hs P w K mg base CX0 3 "_law_names" ["_law_draws"] (spNames K))
    (h_law_quantifiers0 : ∀ n, Hs P w K mg base CX0 (1 + n + 1) "_law_quantifiers" ["_law_f"] (spQuant K n)) (h_prenex : Hs P w K mg base CX0 48 "prenex" ["formula"] (spPx K)) (h_check_formula : Hs P w K mg base CX0 47 "check_formula" ["formula"] (spCheck K)) (h_law_plain0 : ∀ n, Hs P w K mg base CX0 (1 + n + 1) "_law_plain" ["_law_f"] (spLPlain K n))
    (h_law_matrix : Hs P w K mg base CX0 1 "_law_matrix" ["_law_f"] (spMat K)) (h_law_free0 : ∀ n, Hs P w K mg base CX0 (1 + n + 1) "_law_free" ["_law_f"] (spFree K n)) (h_law_symbols0 : ∀ n, Hs P w K mg base CX0 (1 + n + 1) "_law_symbols" ["_law_f"] (spSym K n)) (h_law_cost0 : ∀ n, Hs P w K mg base CX0 (1 + n + 1) "_law_cost" ["_law_f", "_law_n"] (spCost K n))
    (h_law_with : Hs P w K mg base CX0 1 "_law_with" ["_law_values", "_law_names_here", "_law_row"] (spLWith K)) (h_law_true0 : ∀ n, Hs P w K mg base CX0 (1 + n + 1) "_law_true" ["_law_f", "_law_n", "_law_rows_here", "_law_values"] (spTrue K n)) (h_law_refused : Hs P w K mg base CX0 48 "_law_refused" ["_law_f"] (spRef K)) :
    FnOk P w K mg base CX0 60 f fd ["_law_script"] (spLaw K) := by
  have h_law_formula := h_law_formula0 5
  have h_law_formulaF := h_law_formulaF0 5
  have h_law_quantifiers := h_law_quantifiers0 40
  have h_law_plain := h_law_plain0 40
  have h_law_free := h_law_free0 40
  have h_law_symbols := h_law_symbols0 40
  have h_law_cost := h_law_cost0 40
  have h_law_true := h_law_true0 40
  refine D.ok sc_law (fun vs H Q E h => ?_) (fun cdv A0 outer s H vs Q E hr h => ?_)
  · obtain ⟨a, ns, rfl, _⟩ := h
    rfl
  obtain ⟨a, ns, rfl, ha, hz, q⟩ := h
  refine ⟨_, PSs.nox (pss_cons (ps_set (i := 1) sc_law.nd rfl (by first | exact Or.inl rfl | exact Or.inr rfl) (pe_lst (pa_cons (pe_h h_law_numbers (hr.mono (by omega)) rfl pass0 (pa_cons (pv 0) pa_nil)) (pa_cons pe_int pa_nil))))
      (pss_cons (ps_set (i := 2) sc_law.nd rfl (by first | exact Or.inl rfl | exact Or.inr rfl) (pe_op op_add pe_int (pe_op op_mod (pe_h h_law_draw (hr.mono (by omega)) rfl pass0 (pa_cons (pv 1) pa_nil)) pe_int)))
      (pss_cons (ps_set (i := 3) sc_law.nd rfl (by first | exact Or.inl rfl | exact Or.inr rfl) (pe_h h_law_rows (hr.mono (by omega)) rfl pass0 (pa_cons (pe_h h_law_world (hr.mono (by omega)) rfl pass0 (pa_cons (pv 1) (pa_cons (pv 2) pa_nil))) pa_nil)))
      (pss_cons (ps_for PassesOwn.never rfl (pi_range1 rfl T.zrange (pa_cons pe_int pa_nil)) (pg_name (i := 4) sc_law.nd rfl (by first | exact Or.inl rfl | exact Or.inr rfl)) (pss_cons (ps_set (i := 5) sc_law.nd rfl (by first | exact Or.inl rfl | exact Or.inr rfl) (pe_ix ix_list (pe_lst (pa_cons (pe_lst (pa_cons pe_str (pa_cons pe_str (pa_cons pe_str pa_nil)))) (pa_cons (pe_lst (pa_cons pe_str (pa_cons pe_str (pa_cons pe_str pa_nil)))) (pa_cons (pe_h0 h_law_theirs (hr.mono (by omega)) rfl pass0) pa_nil)))) (pe_op op_mod (pe_h h_law_draw (hr.mono (by omega)) rfl pass0 (pa_cons (pv 1) pa_nil)) pe_int) (fun _ _ => rfl)))
      (pss_cons (ps_set (i := 6) sc_law.nd rfl (by first | exact Or.inl rfl | exact Or.inr rfl) (pe_h h_law_formula (hr.mono (by omega)) rfl pass0 (pa_cons (pv 1) (pa_cons (pe_op op_add pe_int (pe_op op_mod (pe_h h_law_draw (hr.mono (by omega)) rfl pass0 (pa_cons (pv 1) pa_nil)) pe_int)) (pa_cons (pv 5) (pa_cons (pe_h h_law_names (hr.mono (by omega)) rfl pass0 (pa_cons (pv 1) pa_nil)) (pa_cons (pe_lst (pa_cons pe_str (pa_cons pe_str pa_nil))) pa_nil)))))))
      (pss_cons (ps_if (pt_cmpR op_gt (pe_h h_law_quantifiers (hr.mono (by omega)) rfl pass0 (pa_cons (pv 6) pa_nil)) pe_int (nomark _)) (pss_one ps_continue) pss_nil)
      (pss_cons (ps_set (i := 7) sc_law.nd rfl (by first | exact Or.inl rfl | exact Or.inr rfl) (pe_h h_prenex (hr.mono (by omega)) rfl pass0 (pa_cons (pv 6) pa_nil)))
      (pss_cons (ps_if (PW.pt (pw_or (pt_cmpR op_notN (pe_h h_check_formula (hr.mono (by omega)) rfl pass0 (pa_cons (pv 7) pa_nil)) pe_non (nomark _)) (pw_or1 (pt_not (pt_val (pe_h h_law_plain (hr.mono (by omega)) rfl pass0 (pa_cons (pe_h h_law_matrix (hr.mono (by omega)) rfl pass0 (pa_cons (pv 7) pa_nil)) pa_nil))))))) (pss_one (ps_ret pe_bl)) pss_nil)
      (pss_cons (ps_if (pt_cmpR op_gt (pe_callB call_len_seq (by rfl) T.zlen PySem.boot_len (pa_cons (pe_lc (own := [("_law_x", 8)]) (g := gName 8) rfl sc_law.nd (pi_list (pe_h h_law_free (hr.mono (by omega)) rfl pass0 (pa_cons (pv 7) pa_nil))) (blkOk_by (own := [("_law_x", 8)]) (N := ["_law_script", "_law_draws", "_law_n", "_law_rows_here", "_law_turn", "_law_pool", "_law_f", "_law_g", "_law_x", "_law_one", "_law_again", "_law_values", "_law_told", "_law_strange", "_law_bad", "_law_other"]) (sc := defScope s_law) (by decide +kernel)) (fun _ _ _ _ _ => pg_name (i := 8) sc_law.nd rfl (Or.inl rfl)) (fun _ _ _ _ _ => pts_one (pt_cmpR (op_notIn_seqB (K := K) rfl) (pv 8) (pe_h h_law_free (hr.mono (by omega)) rfl pass0 (pa_cons (pv 6) pa_nil)) rfl)) (fun _ _ _ _ _ => (pv 8))) pa_nil)) pe_int (nomark _)) (pss_one (ps_ret pe_bl)) pss_nil)
      (pss_cons (ps_if (pt_cmpR op_gt (pe_callB call_len_seq (by rfl) T.zlen PySem.boot_len (pa_cons (pe_lc (own := [("_law_one", 9)]) (g := gName 9) rfl sc_law.nd (pi_list (pe_h h_law_symbols (hr.mono (by omega)) rfl pass0 (pa_cons (pv 7) pa_nil))) (blkOk_by (own := [("_law_one", 9)]) (N := ["_law_script", "_law_draws", "_law_n", "_law_rows_here", "_law_turn", "_law_pool", "_law_f", "_law_g", "_law_x", "_law_one", "_law_again", "_law_values", "_law_told", "_law_strange", "_law_bad", "_law_other"]) (sc := defScope s_law) (by decide +kernel)) (fun _ _ _ _ _ => pg_name (i := 9) sc_law.nd rfl (Or.inl rfl)) (fun _ _ _ _ _ => pts_one (pt_cmpR (op_notInP (K := K) rfl (hu65 hr)) (pv 9) (pe_h h_law_symbols (hr.mono (by omega)) rfl pass0 (pa_cons (pv 6) pa_nil)) rfl)) (fun _ _ _ _ _ => (pv 9))) pa_nil)) pe_int (nomark _)) (pss_one (ps_ret pe_bl)) pss_nil)
      (pss_cons (ps_if (pt_cmpR op_gt (pe_h h_law_cost (hr.mono (by omega)) rfl pass0 (pa_cons (pv 6) (pa_cons (pv 2) pa_nil))) pe_int (nomark _)) (pss_one ps_continue) pss_nil)
      (pss_one (ps_for PassesOwn.never rfl (pi_range1 rfl T.zrange (pa_cons pe_int pa_nil)) (pg_name (i := 10) sc_law.nd rfl (by first | exact Or.inl rfl | exact Or.inr rfl)) (pss_cons (ps_set (i := 11) sc_law.nd rfl (by first | exact Or.inl rfl | exact Or.inr rfl) (pe_h h_law_with (hr.mono (by omega)) rfl pass0 (pa_cons pe_dnewK (pa_cons (pv 5) (pa_cons (pe_callTy call_tuple_of (by rfl) T.ztuple (by decide +kernel) (pa_cons (pe_lc (own := [("_law_x", 8)]) (g := gName 8) rfl sc_law.nd (pi_list (pv 5)) (blkOk_by (own := [("_law_x", 8)]) (N := ["_law_script", "_law_draws", "_law_n", "_law_rows_here", "_law_turn", "_law_pool", "_law_f", "_law_g", "_law_x", "_law_one", "_law_again", "_law_values", "_law_told", "_law_strange", "_law_bad", "_law_other"]) (sc := defScope s_law) (by decide +kernel)) (fun _ _ _ _ _ => pg_name (i := 8) sc_law.nd rfl (Or.inl rfl)) (fun _ _ _ _ _ => pts_nil) (fun _ _ _ _ _ => (pe_op op_mod (pe_h h_law_draw (hr.mono (by omega)) rfl pass0 (pa_cons (pv 1) pa_nil)) (pv 2)))) pa_nil)) pa_nil)))))
      (pss_cons (ps_asg pe_int (pg_sub (pe_dget (hu_of hr) (pv 3) pe_str (fun _ _ => rfl)) pe_int set_list))
      (pss_cons (ps_set (i := 12) sc_law.nd rfl (by first | exact Or.inl rfl | exact Or.inr rfl) (pe_lst (pa_cons (pe_h h_law_true (hr.mono (by omega)) rfl pass0 (pa_cons (pv 6) (pa_cons (pv 2) (pa_cons (pv 3) (pa_cons (pv 11) pa_nil))))) (pa_cons (pe_h h_law_true (hr.mono (by omega)) rfl pass0 (pa_cons (pv 7) (pa_cons (pv 2) (pa_cons (pv 3) (pa_cons (pv 11) pa_nil))))) pa_nil))))
      (pss_one (ps_if (PW.pt (pw_and (pt_cmpR op_ge (pe_ix ix_list (pe_dget (hu_of hr) (pv 3) pe_str (fun _ _ => rfl)) pe_int (fun _ _ => rfl)) pe_int (nomark _)) (pw_and1 (pt_cmpR op_ne (pe_ix ix_list (pv 12) pe_int (fun _ _ => rfl)) (pe_ix ix_list (pv 12) pe_int (fun _ _ => rfl)) (nomark _))))) (pss_one (ps_ret pe_bl)) pss_nil))))))))))))))))
      (pss_cons (ps_set (i := 13) sc_law.nd rfl (by first | exact Or.inl rfl | exact Or.inr rfl) (pe_ix ix_list (pe_lst (pa_cons (pe_tup (pa_cons pe_str (pa_cons (pe_tup (pa_cons pe_str (pa_cons pe_str pa_nil))) (pa_cons (pe_tup (pa_cons pe_str (pa_cons pe_str (pa_cons pe_str pa_nil)))) (pa_cons (pe_tup (pa_cons pe_str (pa_cons pe_str pa_nil))) pa_nil))))) (pa_cons (pe_tup (pa_cons pe_str (pa_cons pe_str (pa_cons (pe_tup (pa_cons pe_str pa_nil)) (pa_cons (pe_tup (pa_cons pe_str (pa_cons pe_str (pa_cons (pe_tup (pa_cons pe_str pa_nil)) pa_nil)))) (pa_cons (pe_tup (pa_cons pe_str pa_nil)) pa_nil)))))) (pa_cons (pe_tup (pa_cons pe_str (pa_cons pe_str (pa_cons (pe_tup (pa_cons pe_str pa_nil)) (pa_cons (pe_tup (pa_cons pe_str (pa_cons (pe_tup (pa_cons pe_str (pa_cons pe_str (pa_cons (pe_tup (pa_cons pe_str pa_nil)) pa_nil)))) pa_nil))) (pa_cons (pe_tup (pa_cons pe_str pa_nil)) pa_nil)))))) (pa_cons (pe_tup (pa_cons pe_str (pa_cons pe_str (pa_cons pe_int (pa_cons (pe_tup (pa_cons pe_str (pa_cons pe_str (pa_cons (pe_tup (pa_cons pe_str pa_nil)) pa_nil)))) pa_nil))))) pa_nil))))) (pe_op op_mod (pe_h h_law_draw (hr.mono (by omega)) rfl pass0 (pa_cons (pv 1) pa_nil)) pe_int) (fun _ _ => rfl)))
      (pss_cons (ps_set (i := 14) sc_law.nd rfl (by first | exact Or.inl rfl | exact Or.inr rfl) (pe_tup (pa_cons pe_str (pa_cons (pe_tup (pa_cons (pe_h h_law_formula (hr.mono (by omega)) rfl pass0 (pa_cons (pv 1) (pa_cons pe_int (pa_cons (pe_lst (pa_cons pe_str (pa_cons pe_str pa_nil))) (pa_cons (pe_h h_law_names (hr.mono (by omega)) rfl pass0 (pa_cons (pv 1) pa_nil)) (pa_cons (pe_lst (pa_cons pe_str (pa_cons pe_str pa_nil))) pa_nil)))))) (pa_cons (pv 13) pa_nil))) pa_nil))))
      (pss_cons (ps_set (i := 15) sc_law.nd rfl (by first | exact Or.inl rfl | exact Or.inr rfl) (pe_h h_law_formulaF (hr.mono (by omega)) rfl pass0 (pa_cons (pv 1) (pa_cons pe_int (pa_cons (pe_lst (pa_cons pe_str (pa_cons pe_str pa_nil))) (pa_cons (pe_h h_law_names (hr.mono (by omega)) rfl pass0 (pa_cons (pv 1) pa_nil)) (pa_cons (pe_lst (pa_cons pe_str (pa_cons pe_str (pa_cons pe_str (pa_cons pe_str pa_nil))))) pa_nil)))))))
      (pss_cons (ps_if (PW.pt (pw_or (pt_not (pt_val (pe_h h_law_refused (hr.mono (by omega)) rfl pass0 (pa_cons (pv 13) pa_nil)))) (pw_or1 (pt_not (pt_val (pe_h h_law_refused (hr.mono (by omega)) rfl pass0 (pa_cons (pe_tup (pa_cons pe_str (pa_cons (pe_tup (pa_cons (pv 15) (pa_cons (pv 13) pa_nil))) pa_nil))) pa_nil))))))) (pss_one (ps_ret pe_bl)) pss_nil)
      (pss_one (ps_ret (pe_and (pe_h h_law_refused (hr.mono (by omega)) rfl pass0 (pa_cons (pe_tup (pa_cons pe_str (pa_cons (pv 14) pa_nil))) pa_nil)) (pe_one (pe_h h_law_refused (hr.mono (by omega)) rfl pass0 (pa_cons (pe_tup (pa_cons pe_str (pa_cons (pe_tup (pa_cons pe_str pa_nil)) (pa_cons (pv 14) pa_nil)))) pa_nil)))))))))))))), ?_⟩
  refine ⟨_, rfl, a, ns, rfl, ha, hz, fun l ls H1 e1 hl0 hl hsm hll => ?_⟩
  refine ⟨sz 2 rfl, fun dr hdr => ?_⟩
  have x2 : Ext [] H1 (upd H1 dr (.lst [.ref l, .int 0])) := .new hdr
  have ne : dr ≠ l := (ne_of_none hl hdr).symm
  have D2 : Dr (upd H1 dr (.lst [.ref l, .int 0])) dr l := ⟨0, ls, upd_same, x2.get0 hl, hsm, hll⟩
  refine rd_mod 3 (by decide) rfl D2 ne fun r3 H3 hr3 e3 D3 => ?_
  refine ⟨_, _, rfl, rfl, ?_⟩
  obtain ⟨m, hm⟩ : ∃ m : Nat, m = 1 + r3 := ⟨_, rfl⟩
  have hm1 : 1 ≤ m := by omega
  have hm3 : m ≤ 3 := by omega
  refine ⟨_, rfl, _, rfl, dr, l, m, by rw [hm]; rfl, D3, ne, hm3, fun pw us sg H4 e4 D4 hpw hsg hsgn hpw0 => ?_⟩
  refine ⟨pw, us, sg, rfl, .inl (.inl hpw), hsg, hsgn, fun rd rk fu I H5 e5 W5 F5 hrd0 hfu0 => ?_⟩
  have c5 : Cl K H5 dr l rd rk fu I := by
    have D4' := D4
    obtain ⟨_, _, _, k1, _⟩ := D4'
    exact ⟨D4.get0 e5, ne, W5, ⟨_, F5⟩, ne_of_none k1 hfu0⟩
  have hv : V.int (1 + ((r3 : Nat) : Int)) = .int (m : Nat) := by rw [hm]; rfl
  refine ⟨3, rfl, by decide, by decide, for_range (n := 3) (fun i σ H' => (∃ o4 o5 o6 o7 o8 o9 o10 o11 o12 o13 o14 o15, σ = [some (.ref a), some (.ref dr), some (.int (m : Nat)), some (.ref rd), o4, o5, o6, o7, o8, o9, o10, o11, o12, o13, o14, o15]) ∧ Cl K H' dr l rd rk fu I) ⟨⟨_, _, _, _, _, _, _, _, _, _, _, _, by rw [← hv]; rfl⟩, c5⟩ (fun i0 σ H6 hi ⟨⟨o4, o5, o6, o7, o8, o9, o10, o11, o12, o13, o14, o15, e⟩, c6⟩ => ?_) (fun σ H6 ⟨⟨o4, o5, o6, o7, o8, o9, o10, o11, o12, o13, o14, o15, e⟩, c6⟩ => ?_)⟩
  · subst e
    have again : ∀ {o4 o5 o6 o7 o8 o9 o10 o11 o12 o13 o14 o15 : Option V} {H' : Hp}, Cl K H' dr l rd rk fu I → (∃ p4 p5 p6 p7 p8 p9 p10 p11 p12 p13 p14 p15, ([some (.ref a), some (.ref dr), some (.int (m : Nat)), some (.ref rd), o4, o5, o6, o7, o8, o9, o10, o11, o12, o13, o14, o15] : L2.St) = [some (.ref a), some (.ref dr), some (.int (m : Nat)), some (.ref rd), p4, p5, p6, p7, p8, p9, p10, p11, p12, p13, p14, p15]) ∧ Cl K H' dr l rd rk fu I :=
      fun c => ⟨⟨_, _, _, _, _, _, _, _, _, _, _, _, rfl⟩, c⟩
    refine ⟨sz 3 rfl, fun p1 h1 => ⟨sz 3 rfl, fun p2 h2 => ⟨rfl, fun ws p3 Hw hw1 hw2 hw3 ew hp3 => ⟨sz 3 rfl, fun p4 h4 => ?_⟩⟩⟩⟩
    have e1' : Ext [] H6 (upd H6 p1 (.lst (sv ["x", "y", "z"]))) := .new h1
    have x2' := Ext.new (S := []) (o := .lst (sv ["x", "e", "p"])) h2
    have x4 := Ext.new (S := []) (o := .lst [.ref p1, .ref p2, .ref p3]) h4
    have E4 := e1'.trans (x2'.trans (ew.trans x4))
    have c4 := c6.step0 E4
    refine rd_mod 3 (by decide) rfl c4.D c4.ne fun r7 H7 hr7 e7 D7 => ?_
    have c7 := c4.stepD e7 D7
    have hin7 : ∀ {p : Addr} {xs : List V}, upd Hw p4 (.lst [.ref p1, .ref p2, .ref p3]) p = some (.lst xs) → xs.length = 3 → H7 p = some (.lst xs) := fun {p xs} hp hl => by
      refine e7.get hp ?_
      have D4 := c4.D
      obtain ⟨nn, _, k1, _⟩ := D4
      have : p ≠ dr := fun e => by
        rw [e, k1] at hp
        have hp : [V.ref l, V.int (nn : Nat)] = xs := by simpa using hp
        rw [← hp] at hl
        cases hl
      simp [this]
    have q4 := hin7 (p := p4) (xs := [.ref p1, .ref p2, .ref p3]) upd_same rfl
    have q1 := hin7 (p := p1) (xs := sv ["x", "y", "z"]) (x4.get0 (ew.get0 (x2'.get0 upd_same))) rfl
    have q2 := hin7 (p := p2) (xs := sv ["x", "e", "p"]) (x4.get0 (ew.get0 upd_same)) rfl
    have q3 := hin7 (p := p3) (xs := sv ws) (x4.get0 hp3) (by rw [List.length_map]; exact hw1)
    have hpick : ∃ pl, ∃ pool : List Str, ([V.ref p1, .ref p2, .ref p3] : List V)[r7]? = some (.ref pl) ∧ H7 pl = some (.lst (sv pool)) ∧ pool.length = 3 ∧ pool.Nodup ∧ ∀ x ∈ pool, nmOk x := by
      have : r7 = 0 ∨ r7 = 1 ∨ r7 = 2 := by omega
      rcases this with h | h | h <;> rw [h]
      · exact ⟨p1, _, rfl, q1, rfl, by decide +kernel, by decide +kernel⟩
      · exact ⟨p2, _, rfl, q2, rfl, by decide +kernel, by decide +kernel⟩
      · exact ⟨p3, _, rfl, q3, hw1, hw2, hw3⟩
    obtain ⟨pl, pool, hpl, hp7, hpl3, hpnd, hpnm⟩ := hpick
    have plen : ∀ {H' : Hp}, Cl K H' dr l rd rk fu I → H' pl = some (.lst (sv pool)) → pl ≠ dr ∧ pl ≠ fu := fun {H'} c h => by
      refine ⟨fun e => ?_, fun e => ?_⟩
      · have D' := c.D
        obtain ⟨nn, _, k1, _⟩ := D'
        rw [e, k1] at h
        have h : [V.ref l, V.int (nn : Nat)] = sv pool := by simpa using h
        have := congrArg List.length h
        rw [List.length_map, hpl3] at this
        cases this
      · obtain ⟨t, k1⟩ := c.F
        rw [e, k1] at h
        have h : [V.int t] = sv pool := by simpa using h
        have := congrArg List.length h
        rw [List.length_map, hpl3] at this
        cases this
    obtain ⟨hpd, hpf⟩ := plen c7 hp7
    refine ⟨_, _, _, _, rfl, rfl, .inl (.inl q4), atI_nat hpl, ?_⟩
    refine ⟨_, rfl, ?_⟩
    refine rd_mod 4 (by decide) rfl c7.D c7.ne fun r8 H8 hr8 e8 D8 => ?_
    have c8 := c7.stepD e8 D8
    refine ⟨_, _, rfl, rfl, _, rfl, _, rfl, dr, l, rfl, D8, c8.ne, fun k nl H9 hk1 hk3 e9 D9 hnl hnl0 => ?_⟩
    have c9 := c8.stepD e9 D9
    have hnld : nl ≠ dr := by obtain ⟨_, _, k1, _⟩ := D8; exact (ne_of_none k1 hnl0).symm
    refine ⟨sz 2 rfl, fun kl hkl => ?_⟩
    have x10 : Ext [] H9 (upd H9 kl (.lst (sv (kinds true)))) := .new hkl
    have c10 := c9.step0 x10
    have hkld : kl ≠ dr := by obtain ⟨_, _, k1, _⟩ := D9; exact (ne_of_none k1 hkl).symm
    have hp10 : upd H9 kl (.lst (sv (kinds true))) pl = some (.lst (sv pool)) := x10.get0 (e9.get (e8.get hp7 (by simp [hpd])) (by simp [hpd]))
    have hns3 := ns0_len k
    refine ⟨dr, l, pl, pool, nl, ns0.take k, kl, _, 2 + r8, by omega, rfl, c10.D, c10.ne, .inl (.inl hp10), hpd, by omega, by omega, hpnd, hnl.ext x10 (by simp), hnld, by omega, ns0_small k, .inl (.inl upd_same), hkld, by omega, fun f vf H11 e11 D11 hvf hG hdp => ?_⟩
    have kn := kn_of hpnm hG (by omega)
    have c11 := c10.stepD e11 D11
    have hp11 := e11.get hp10 (by simp [hpd])
    clear hin7 q4 q1 q2 q3 hpl hp7 e7 D7 c7 hp10 c10 e11 D11 x10 e8 e9 D8 D9 c8 c9
    have kdp := kn.dp
    have kpt := kn.pt
    -- how many quantifiers
    refine ⟨_, rfl, f, _, rfl, hvf, kn.fo, by omega, kid_len kn.fo ⟨_, _, kn.wf⟩, ⟨_, _, kn.wf⟩, fun H12 e12 => ⟨_, _, rfl, rfl, _, rfl, ifB (fun hb => ?_) (fun hb => ?_)⟩⟩
    · exact again (c11.step0 e12)
    have hqn : ¬ ((qn f : Nat) : Int) > 20 := of_decide_eq_false hb
    have hf12 := Rp.ext e12 f hvf
    -- the prenex form
    refine ⟨_, rfl, f, _, pool ++ (["e", "p", "q"] : List Str), s00, rfl, hf12, kn.fo, kn.wf, by omega, by omega, by omega, by rw [List.length_append, hpl3]; decide, kn.an, fun hs r gv H13 e13 px hg => ?_⟩
    have pxp := px.pt
    have pxd := px.dp
    have pxl := px.len
    have hptG : pt (wrap hs r) ≤ 1000 := by rw [pt_wrap]; omega
    have hdpG : dp (wrap hs r) ≤ 40 := by rw [dp_wrap]; omega
    have hfoG : fo (wrap hs r) = true := fo_wrap hs (qf_fo r px.qf)
    refine ⟨_, rfl, wrap hs r, _, s00, rfl, hg, px.wf, by omega, hdpG, fun H14 e14 => ⟨rfl, _, rfl, ifF rfl ?_⟩⟩
    refine ⟨_, rfl, hs, r, _, rfl, Rp.ext e14 _ hg, by omega, px.qf, fun rv hrv => ⟨r, rv, rfl, hrv, px.qf, by omega, fun H15 e15 => ⟨_, rfl, ifF rfl ?_⟩⟩⟩
    have E15 := e13.trans (e14.trans e15)
    have c15 := c11.step0 (e12.trans E15)
    have hg15 := Rp.ext (e14.trans e15) _ hg
    have hf15 := Rp.ext E15 _ hf12
    have hp15 := (e12.trans E15).get0 hp11
    clear hg hrv e14 e15 e13 hf12 c11 hvf hp11
    have sok : ∀ x ∈ ([("e", 2), ("p", 1), ("q", 0)] : List (Str × Nat)), PyData.strOk x.1 = true := by decide +kernel
    have fok : ∀ x ∈ sy f, PyData.strOk x.1 = true := fun x hx => sok x (kn.sy x hx)
    -- free variables
    refine ⟨_, rfl, wrap hs r, _, s00, _, rfl, hg15, px.wf, hdpG, hptG, fun ys pf H16 e16 hpf' _ hys hyl => ⟨pf, rfl, ⟨_, .inl (.inl hpf')⟩, fun B hB => ?_⟩⟩
    refine lc_list (xs := sv ys) (fun i H' => H' B = some (.lst []) ∧ Ext [] H16 H') ⟨upd_same, .new hB⟩ (fun i H' _ z => z.2.lst0 (.inl (.inl hpf'))) (fun i y H17 hy ⟨g1, g2⟩ => ?_) (fun H17 ⟨g1, g2⟩ => ?_)
    · rw [List.getElem?_map] at hy
      obtain ⟨y0, hy0, rfl⟩ := Option.map_eq_some_iff.mp hy
      refine ⟨rfl, ?_⟩
      refine ⟨_, rfl, _, rfl, f, _, s00, _, rfl, Rp.ext (e16.trans g2) _ hf15, kn.wf, by omega, by omega, fun zs pz H18 e18 hpz _ hzs hzl => ⟨pz, sv zs, rfl, .inl (.inl (.inl hpz)), rfl, flat_sv _, _, rfl, ifF ?_ ⟨e18.get0 g1, g2.trans e18⟩⟩⟩
      show (!inV (.str y0) (sv zs)) = false
      rw [inV_sv]
      have : y0 ∈ zs := (hzs y0).mpr (px.fv y0 ((hys y0).mp (List.mem_of_getElem? hy0)))
      simpa using this
    refine ⟨B, [], rfl, .inl (.inl (.inl g1)), _, _, rfl, rfl, _, rfl, ifF rfl ?_⟩
    have E17 := e16.trans g2
    have c17 := c15.step0 E17
    have hg17 := Rp.ext E17 _ hg15
    have hf17 := Rp.ext E17 _ hf15
    have hp17 := E17.get0 hp15
    clear hg15 hf15 hp15 c15 E17 g1 g2 hB e16 hpf' hys hyl
    -- symbols
    have gok : ∀ x ∈ sy (wrap hs r), PyData.strOk x.1 = true := fun x hx => fok x (px.sy x hx)
    refine ⟨_, rfl, wrap hs r, _, s00, _, rfl, hg17, px.wf, hfoG, hdpG, hptG, gok, fun ps us' pf H18 e18 hpf' hal _ hps hul => ⟨pf, rfl, ⟨_, .inl (.inl hpf')⟩, fun B hB => ?_⟩⟩
    refine lc_list (xs := us') (fun i H' => H' B = some (.lst []) ∧ Ext [] H18 H') ⟨upd_same, .new hB⟩ (fun i H' _ z => z.2.lst0 (.inl (.inl hpf'))) (fun i y H19 hy ⟨g1, g2⟩ => ?_) (fun H19 ⟨g1, g2⟩ => ?_)
    · obtain ⟨z0, hz0, hzr⟩ := hal.get hy
      refine ⟨rfl, ?_⟩
      refine ⟨_, rfl, _, rfl, f, _, s00, _, rfl, Rp.ext (e18.trans g2) _ hf17, kn.wf, kn.fo, by omega, by omega, fok, fun ps2 us2 p2 H20 e20 hp2 hal2 _ hm2 _ => ⟨z0, ps2, p2, us2, rfl, Pr.ext (g2.trans e20) _ _ hzr, .inl (.inl hp2), hal2, ?_, ?_, _, rfl, ifF ?_ ⟨e20.get0 g1, g2.trans e20⟩⟩⟩
      · exact gok z0 ((hps z0).mp (List.mem_of_getElem? hz0))
      · exact fun z hz => fok z ((hm2 z).mp hz)
      · have : z0 ∈ ps2 := (hm2 z0).mpr (px.sy z0 ((hps z0).mp (List.mem_of_getElem? hz0)))
        simpa using this
    refine ⟨B, [], rfl, .inl (.inl (.inl g1)), _, _, rfl, rfl, _, rfl, ifF rfl ?_⟩
    have E19 := e18.trans g2
    have c19 := c17.step0 E19
    have hg19 := Rp.ext E19 _ hg17
    have hf19 := Rp.ext E19 _ hf17
    have hp19 := E19.get0 hp17
    clear hg17 hf17 hp17 c17 E19 g1 g2 hB e18 hpf' hps hul hal
    -- the cost
    refine ⟨_, rfl, _, rfl, f, _, _, rfl, hf19, kn.fo, by omega, ⟨_, _, kn.wf⟩, by omega, by omega, fun c H20 e20 => ⟨_, _, rfl, rfl, _, rfl, ifB (fun hb => ?_) (fun hb => ?_)⟩⟩
    · exact again (c19.step0 e20)
    have c20 := c19.step0 e20
    have hg20 := Rp.ext e20 _ hg19
    have hf20 := Rp.ext e20 _ hf19
    have hp20 := e20.get0 hp19
    clear hg19 hf19 hp19 c19 e20
    -- twice with values
    refine ⟨2, rfl, by decide, by decide, for_range (n := 2) (fun i σ H' => (∃ o8 o9 o10 o11 o12 o13 o14 o15, σ = [some (.ref a), some (.ref dr), some (.int (m : Nat)), some (.ref rd), some (.int (0 + ((i0 : Nat) : Int))), some (.ref pl), some vf, some gv, o8, o9, o10, o11, o12, o13, o14, o15]) ∧ Cl K H' dr l rd rk fu I ∧ Rp K H' f vf ∧ Rp K H' (wrap hs r) gv ∧ H' pl = some (.lst (sv pool))) ⟨⟨_, _, _, _, _, _, _, _, rfl⟩, c20, hf20, hg20, hp20⟩ (fun j σ H21 hj ⟨⟨o8, o9, o10, o11, o12, o13, o14, o15, e⟩, c21, hf21, hg21, hp21⟩ => ?_) (fun σ H21 ⟨⟨o8, o9, o10, o11, o12, o13, o14, o15, e⟩, c21, hf21, hg21, hp21⟩ => ?_)⟩
    · subst e
      intro kd hkd
      have x22 : Ext [] H21 (upd H21 kd (.dK [])) := .new hkd
      have c22 := c21.step0 x22
      have hp22 := x22.get0 hp21
      have hk22 : upd H21 kd (.dK []) kd = some (.dK []) := upd_same
      have hf22 := Rp.ext x22 _ hf21
      have hg22 := Rp.ext x22 _ hg21
      generalize hH22 : upd H21 kd (.dK []) = H22 at x22 c22 hp22 hk22 hf22 hg22
      have hkdr : kd ≠ dr := by
        have D' := c22.D
        obtain ⟨_, _, k1, _⟩ := D'
        exact ne_of hk22 k1 (by intro z; cases z)
      have hkfu : kd ≠ fu := by
        obtain ⟨t, k1⟩ := c22.F
        exact ne_of hk22 k1 (by intro z; cases z)
      refine ⟨_, rfl, _, rfl, pl, rfl, ⟨_, .inl (.inl hp22)⟩, fun B hB => ?_⟩
      have hBd : B ≠ dr := by
        have D' := c22.D
        obtain ⟨_, _, k1, _⟩ := D'
        exact (ne_of_none k1 hB).symm
      have hBl : B ≠ l := by
        have D' := c22.D
        obtain ⟨_, _, _, k1, _⟩ := D'
        exact (ne_of_none k1 hB).symm
      have xB : Ext [] H22 (upd H22 B (.lst [])) := .new hB
      refine lc_list (xs := sv pool) (fun i H' => ∃ row : List Int, H' B = some (.lst (row.map V.int)) ∧ row.length = i ∧ Ext [dr] H22 H' ∧ Dr H' dr l) ⟨[], upd_same, rfl, xB.any, c22.D.get0 xB⟩ (fun i H' _ ⟨row, g1, g2, g4, g5⟩ => g4.lst (.inl (.inl hp22)) (by simp [hpd])) (fun i y H' hy ⟨row, g1, g2, g4, g5⟩ => ?_) (fun H' ⟨row, g1, g2, g4, g5⟩ => ?_)
      · refine ⟨rfl, ?_⟩
        have hi : i < (sv pool).length := by
          rcases Nat.lt_or_ge i (sv pool).length with a | a
          · exact a
          · rw [List.getElem?_eq_none a] at hy; cases hy
        rw [List.length_map, hpl3] at hi
        refine ⟨_, rfl, dr, l, rfl, g5, c22.ne, fun r0 H23 hr0 e23 D23 => ?_⟩
        have g1' := e23.get g1 (by simp [hBd])
        have x24 : Ext [B] H23 (upd H23 B (.lst (row.map V.int ++ [.int ((r0 : Int) % (m : Nat))]))) := Ext.put .refl (by simp) g1' rfl
        refine ⟨_, rfl, _, _, rfl, rfl, (by show (0 : Int) < (m : Nat); omega), _, g1', big_sz (by rw [List.length_map]; omega), row ++ [((r0 : Int) % (m : Nat))], by rw [upd_same, List.map_append]; rfl, by rw [List.length_append, g2]; rfl, (g4.trans e23).mut hB, D23.get x24 (by simp [hBd.symm]) (by simp [hBl.symm])⟩
      · rw [List.length_map] at g2
        refine ⟨B, _, rfl, .inl ⟨.inl (.inl g1), fun p hp => ?_⟩⟩
        have xp : Ext [] H' (upd H' p (.tup (row.map V.int))) := .new hp
        have Ep := g4.trans (xp.any (T := [dr]))
        refine ⟨kd, pl, p, [], fun _ => 0, [], pool, row, rfl, Ep.get hk22 (by simp [hkdr]), (fun x hx => nomatch hx), .inr (.inl (.inl (Ep.get hp22 (by simp [hpd])))), SqT.of upd_same, g2.symm, by rw [hpl3]; decide, fun vd kk' H24 e24 hvd hV hkl hvd0 => ?_⟩
        have E24 := Ep.trans (e24.any (T := [dr]))
        have c24 := c22.stepD E24 (g5.get0 (xp.trans e24))
        obtain ⟨t0, F24⟩ := c24.F
        have hvf : vd ≠ fu := ne_of hvd F24 (by intro z; cases z)
        have x25 : Ext [fu] H24 (upd H24 fu (.lst [.int 20000])) := Ext.put .refl (by simp) F24 rfl
        have F25 : upd H24 fu (.lst [.int 20000]) fu = some (.lst [.int 20000]) := upd_same
        have c25 := c24.stepF x25 ⟨_, F25⟩
        have hvd25 := x25.get hvd (by simp [hvf])
        have hf25 := Rp.ext x25 _ (Rp.ext E24 _ hf22)
        have hg25 := Rp.ext x25 _ (Rp.ext E24 _ hg22)
        have hp25 := x25.get (E24.get hp22 (by simp [hpd])) (by simp [hpf])
        refine ⟨_, rfl, rd, _, rfl, dget_of (k := Sum.inr "") c24.W.at_ c24.W.z, fu, _, _, _, rfl, rfl, F24, rfl, ?_⟩
        generalize hH25 : upd H24 fu (.lst [.int 20000]) = H25 at x25 F25 c25 hvd25 hf25 hg25 hp25
        have go : ∀ (G : Hp → Prop), G H25 → G (upd H24 fu (.lst ([V.int t0].set 0 (.int 20000)))) := fun G h => by
          have : upd H24 fu (.lst ([V.int t0].set 0 (.int 20000))) = H25 := hH25
          rw [this]
          exact h
        refine go _ ?_
        have syn : ∀ x ∈ sy f, x.1 ∈ (["e", "p", "q"] : List Str) := fun x hx => by
          have h := kn.sy x hx
          simp only [List.mem_cons, List.not_mem_nil, or_false] at h
          rcases h with rfl | rfl | rfl <;> simp
        have hkk : kk'.length ≤ 3 := by rw [hpl3] at hkl; simpa using hkl
        refine ⟨_, rfl, _, rfl, _, rfl, _, rfl, f, vf, m, rd, rk, fu, 20000, vd, kk', put (fun _ => 0) pool row, [] ++ pool, I, ["e", "p", "q"], s00, fun _ => none, rfl, hf25, kn.wf, kn.fo, by omega, hm1, hm3, c25.W, syn, F25, hvd25, hV, kn.fv, by omega, fun b1 t1 H26 e26 F26 ht1 hs1 => ?_⟩
        have c26 := c25.stepF e26 ⟨_, F26⟩
        have hvd26 := e26.get hvd25 (by simp [hvf])
        refine ⟨_, rfl, _, rfl, _, rfl, _, rfl, wrap hs r, gv, m, rd, rk, fu, t1, vd, kk', put (fun _ => 0) pool row, [] ++ pool, I, ["e", "p", "q"], s00, fun _ => none, rfl, Rp.ext e26 _ hg25, px.wf, hfoG, by omega, hm1, hm3, c26.W, fun x hx => syn x (px.sy x hx), F26, hvd26, hV, fun x hx => kn.fv x (px.fv x hx), by omega, fun b2 t2 H27 e27 F27 ht2 hs2 => ?_⟩
        have c27 := c26.stepF e27 ⟨_, F27⟩
        refine ⟨sz 2 rfl, fun ptl hptl => ?_⟩
        have x28 : Ext [] H27 (upd H27 ptl (.lst [.bl b1, .bl b2])) := .new hptl
        have c28 := c27.step0 x28
        have F28 := x28.get0 F27
        have E28 := (x25.trans (e26.trans e27)).trans (x28.any (T := [fu]))
        have fin : (∃ p8 p9 p10 p11 p12 p13 p14 p15, ([some (.ref a), some (.ref dr), some (.int (m : Nat)), some (.ref rd), some (.int (0 + ((i0 : Nat) : Int))), some (.ref pl), some vf, some gv, o8, o9, some (.int (0 + ((j : Nat) : Int))), some (.ref vd), some (.ref ptl), o13, o14, o15] : L2.St) = [some (.ref a), some (.ref dr), some (.int (m : Nat)), some (.ref rd), some (.int (0 + ((i0 : Nat) : Int))), some (.ref pl), some vf, some gv, p8, p9, p10, p11, p12, p13, p14, p15]) ∧ Cl K (upd H27 ptl (.lst [.bl b1, .bl b2])) dr l rd rk fu I ∧ Rp K (upd H27 ptl (.lst [.bl b1, .bl b2])) f vf ∧ Rp K (upd H27 ptl (.lst [.bl b1, .bl b2])) (wrap hs r) gv ∧ upd H27 ptl (.lst [.bl b1, .bl b2]) pl = some (.lst (sv pool)) :=
          ⟨⟨_, _, _, _, _, _, _, _, rfl⟩, c28, Rp.ext ((e26.trans e27).trans (x28.any (T := [fu]))) _ hf25, Rp.ext ((e26.trans e27).trans (x28.any (T := [fu]))) _ hg25, x28.get0 ((e26.trans e27).get hp25 (by simp [hpf]))⟩
        have hptl' : upd H27 ptl (.lst [.bl b1, .bl b2]) ptl = some (.lst [.bl b1, .bl b2]) := upd_same
        refine ⟨_, rfl, rd, _, rfl, dget_of (k := Sum.inr "") c28.W.at_ c28.W.z, _, _, _, _, rfl, rfl, .inl (.inl F28), rfl, _, _, rfl, rfl, _, rfl, ifB (fun hb => ?_) (fun _ => ifF rfl fin)⟩
        have hb : t2 ≥ 0 := of_decide_eq_true hb
        have ss := px.sat I m hm1 (put (fun _ => 0) pool row)
        have hbb : b1 = b2 := by
          have h1 := hs1 (by omega)
          have h2 := hs2 hb
          rw [Bool.eq_iff_iff, h1, h2]
          exact ss.symm
        subst hbb
        refine ⟨_, rfl, _, _, _, _, rfl, rfl, .inl (.inl hptl'), rfl, _, rfl, _, _, _, _, rfl, rfl, .inl (.inl hptl'), rfl, ?_⟩
        exact ⟨rfl, _, rfl, ifF (by simp) fin⟩
    · subst e
      exact again c21
  · subst e
    refine ⟨sz 2 rfl, fun q1 hq1 => ?_⟩
    obtain ⟨xq1, sq1⟩ := newT (K := K) (xs := [.str "x", .str "y"]) hq1
    refine ⟨sz 3 rfl, fun q2 hq2 => ?_⟩
    obtain ⟨xq2, sq2⟩ := newT (K := K) (xs := [.str "eq", .str "x", .str "y"]) hq2
    refine ⟨sz 2 rfl, fun q3 hq3 => ?_⟩
    obtain ⟨xq3, sq3⟩ := newT (K := K) (xs := [.str "x", .str "x"]) hq3
    refine ⟨sz 4 rfl, fun q4 hq4 => ?_⟩
    obtain ⟨xq4, sq4⟩ := newT (K := K) (xs := [.str "tc", .ref q1, .ref q2, .ref q3]) hq4
    refine ⟨sz 1 rfl, fun q5 hq5 => ?_⟩
    obtain ⟨xq5, sq5⟩ := newT (K := K) (xs := [.str "x"]) hq5
    refine ⟨sz 1 rfl, fun q6 hq6 => ?_⟩
    obtain ⟨xq6, sq6⟩ := newT (K := K) (xs := [.str "x"]) hq6
    refine ⟨sz 3 rfl, fun q7 hq7 => ?_⟩
    obtain ⟨xq7, sq7⟩ := newT (K := K) (xs := [.str "rel", .str "r", .ref q6]) hq7
    refine ⟨sz 1 rfl, fun q8 hq8 => ?_⟩
    obtain ⟨xq8, sq8⟩ := newT (K := K) (xs := [.str "x"]) hq8
    refine ⟨sz 5 rfl, fun q9 hq9 => ?_⟩
    obtain ⟨xq9, sq9⟩ := newT (K := K) (xs := [.str "lfp", .str "r", .ref q5, .ref q7, .ref q8]) hq9
    refine ⟨sz 1 rfl, fun q10 hq10 => ?_⟩
    obtain ⟨xq10, sq10⟩ := newT (K := K) (xs := [.str "x"]) hq10
    refine ⟨sz 1 rfl, fun q11 hq11 => ?_⟩
    obtain ⟨xq11, sq11⟩ := newT (K := K) (xs := [.str "x"]) hq11
    refine ⟨sz 3 rfl, fun q12 hq12 => ?_⟩
    obtain ⟨xq12, sq12⟩ := newT (K := K) (xs := [.str "rel", .str "r", .ref q11]) hq12
    refine ⟨sz 2 rfl, fun q13 hq13 => ?_⟩
    obtain ⟨xq13, sq13⟩ := newT (K := K) (xs := [.str "not", .ref q12]) hq13
    refine ⟨sz 1 rfl, fun q14 hq14 => ?_⟩
    obtain ⟨xq14, sq14⟩ := newT (K := K) (xs := [.str "x"]) hq14
    refine ⟨sz 5 rfl, fun q15 hq15 => ?_⟩
    obtain ⟨xq15, sq15⟩ := newT (K := K) (xs := [.str "pfp", .str "r", .ref q10, .ref q13, .ref q14]) hq15
    refine ⟨sz 1 rfl, fun q16 hq16 => ?_⟩
    obtain ⟨xq16, sq16⟩ := newT (K := K) (xs := [.str "x"]) hq16
    refine ⟨sz 3 rfl, fun q17 hq17 => ?_⟩
    obtain ⟨xq17, sq17⟩ := newT (K := K) (xs := [.str "rel", .str "r", .ref q16]) hq17
    refine ⟨sz 4 rfl, fun q18 hq18 => ?_⟩
    obtain ⟨xq18, sq18⟩ := newT (K := K) (xs := [.str "guess", .str "r", .int 1, .ref q17]) hq18
    refine ⟨sz 4 rfl, fun q19 hq19 => ?_⟩
    obtain ⟨t19, k19⟩ := newL (xs := [.ref q4, .ref q9, .ref q15, .ref q18]) hq19
    have t18 := xq18.trans t19
    have t17 := xq17.trans t18
    have t16 := xq16.trans t17
    have t15 := xq15.trans t16
    have t14 := xq14.trans t15
    have t13 := xq13.trans t14
    have t12 := xq12.trans t13
    have t11 := xq11.trans t12
    have t10 := xq10.trans t11
    have t9 := xq9.trans t10
    have t8 := xq8.trans t9
    have t7 := xq7.trans t8
    have t6 := xq6.trans t7
    have t5 := xq5.trans t6
    have t4 := xq4.trans t5
    have t3 := xq3.trans t4
    have t2 := xq2.trans t3
    have t1 := xq1.trans t2
    have c20 := c6.step0 t1
    have u1 := t2.tup sq1
    have u2 := t3.tup sq2
    have u3 := t4.tup sq3
    have u4 := t5.tup sq4
    have u5 := t6.tup sq5
    have u6 := t7.tup sq6
    have u7 := t8.tup sq7
    have u8 := t9.tup sq8
    have u9 := t10.tup sq9
    have u10 := t11.tup sq10
    have u11 := t12.tup sq11
    have u12 := t13.tup sq12
    have u13 := t14.tup sq13
    have u14 := t15.tup sq14
    have u15 := t16.tup sq15
    have u16 := t17.tup sq16
    have u17 := t18.tup sq17
    have u18 := t19.tup sq18
    have nd19 : q19 ≠ dr := by
      have D' := c20.D
      obtain ⟨nn, _, k1, _⟩ := D'
      intro e
      rw [← e, k19] at k1
      have h : [V.ref q4, .ref q9, .ref q15, .ref q18] = [V.ref l, .int (nn : Nat)] := by simpa using k1
      cases congrArg List.length h
    refine rd_mod 4 (by decide) rfl c20.D c20.ne fun r4 H21 hr4 e21 D21 => ?_
    have c21 := c20.stepD e21 D21
    have k21 := e21.get k19 (by simp [nd19])
    have hodd : ∃ vS, ([V.ref q4, .ref q9, .ref q15, .ref q18] : List V)[r4]? = some vS ∧ Odd K H21 10 (strange r4) vS := by
      have W := wf_strange r4
      have : r4 = 0 ∨ r4 = 1 ∨ r4 = 2 ∨ r4 = 3 := by omega
      rcases this with h | h | h | h <;> subst h
      · exact ⟨_, rfl, ⟨_, _, _, _, rfl, e21.tup u4, e21.tup u1, e21.tup u3, _, rfl, e21.tup u2⟩, W.2.1, W.1, W.2.2.1, W.2.2.2⟩
      · exact ⟨_, rfl, ⟨_, _, _, _, rfl, e21.tup u9, e21.tup u5, e21.tup u8, _, _, rfl, e21.tup u7, e21.tup u6⟩, W.2.1, W.1, W.2.2.1, W.2.2.2⟩
      · exact ⟨_, rfl, ⟨_, _, _, _, rfl, e21.tup u15, e21.tup u10, e21.tup u14, _, _, rfl, e21.tup u13, _, _, rfl, e21.tup u12, e21.tup u11⟩, W.2.1, W.1, W.2.2.1, W.2.2.2⟩
      · exact ⟨_, rfl, ⟨_, _, rfl, e21.tup u18, _, _, rfl, e21.tup u17, e21.tup u16⟩, W.2.1, W.1, W.2.2.1, W.2.2.2⟩
    obtain ⟨vS, hvS, odd⟩ := hodd
    generalize strange r4 = S at odd
    refine ⟨_, _, _, _, rfl, rfl, .inl (.inl k21), atI_nat hvS, ?_⟩
    clear u1 u2 u3 u4 u5 u6 u7 u8 u9 u10 u11 u12 u13 u14 u15 u16 u17 u18 k21 k19 c20 e21 D21
    refine ⟨_, rfl, sz 2 rfl, fun pl1 hpl1 => ?_⟩
    obtain ⟨xa1, kpl1⟩ := newL (xs := [.str "x", .str "y"]) hpl1
    have ca1 := c21.step0 xa1
    have npd1 : pl1 ≠ dr := by
      obtain ⟨_, _, k1, _⟩ := c21.D
      exact (ne_of_none k1 hpl1).symm
    refine ⟨_, rfl, dr, l, rfl, ca1.D, ca1.ne, fun k1 nl1 Hb1 hk1 hk31 eb1 Db1 hnl1 hnl01 => ?_⟩
    have cb1 := ca1.stepD eb1 Db1
    have nnd1 : nl1 ≠ dr := by
      obtain ⟨_, _, k1, _⟩ := ca1.D
      exact (ne_of_none k1 hnl01).symm
    refine ⟨sz 2 rfl, fun kl1 hkl1 => ?_⟩
    obtain ⟨xc1, kkl1⟩ := newL (xs := [.str "some", .str "all"]) hkl1
    have cc1 := cb1.step0 xc1
    have nkd1 : kl1 ≠ dr := by
      obtain ⟨_, _, k1, _⟩ := cb1.D
      exact (ne_of_none k1 hkl1).symm
    have hn31 := ns0_len k1
    refine ⟨dr, l, pl1, ["x", "y"], nl1, ns0.take k1, kl1, _, 2, rfl, rfl, cc1.D, cc1.ne, .inl (.inl (xc1.get0 (eb1.get kpl1 (by simp [npd1])))), npd1, by decide, by decide, by decide +kernel, hnl1.ext xc1 (by simp), nnd1, by omega, ns0_small k1, .inl (.inl kkl1), nkd1, by omega, fun f1 vf1 He1 ee1 De1 hf1 hG1 hdp1 => ?_⟩
    have ce1 := cc1.stepD ee1 De1
    have E1 := (xa1.any (T := [dr])).trans (eb1.trans ((xc1.any (T := [dr])).trans ee1))
    have wf1 := gf_wf (by decide +kernel) f1 _ _ hG1 (ns0_ok k1)
    have pt1 := gf_pt f1 _ hG1
    have p31 : 3 ^ dp f1 ≤ 3 ^ 3 := Nat.pow_le_pow_right (by decide) (by omega)
    have e31 : (3 : Nat) ^ 3 = 27 := by decide
    have odd1 := odd.ext E1
    refine ⟨_, rfl, sz 2 rfl, fun w1 hw1 => ?_⟩
    obtain ⟨xw1, sw1⟩ := newT (K := K) (xs := [vf1, vS]) hw1
    refine ⟨sz 2 rfl, fun w2 hw2 => ?_⟩
    obtain ⟨xw2, sw2⟩ := newT (K := K) (xs := [.str "and", .ref w1]) hw2
    have Ew := xw1.trans xw2
    have cw := ce1.step0 Ew
    have oddw := odd1.ext Ew
    have obad : Odd K _ 30 (jn true [f1, S]) (.ref w2) := ⟨⟨_, _, _, rfl, sw2, xw2.tup sw1, _, _, rfl, Rp.ext Ew _ hf1, _, _, rfl, oddw.rp, rfl⟩, by show (fo f1 && (fo S && true)) = false; rw [odd.fo]; simp, ⟨by show 2 ≤ 40; decide, wf1, odd.wf, trivial⟩, by have := odd.pt; simp [pt, pts]; omega, by have := odd.dp; simp [dp, dps]; omega⟩
    refine ⟨_, rfl, sz 2 rfl, fun pl2 hpl2 => ?_⟩
    obtain ⟨xa2, kpl2⟩ := newL (xs := [.str "x", .str "y"]) hpl2
    have ca2 := cw.step0 xa2
    have npd2 : pl2 ≠ dr := by
      obtain ⟨_, _, k1, _⟩ := cw.D
      exact (ne_of_none k1 hpl2).symm
    refine ⟨_, rfl, dr, l, rfl, ca2.D, ca2.ne, fun k2 nl2 Hb2 hk2 hk32 eb2 Db2 hnl2 hnl02 => ?_⟩
    have cb2 := ca2.stepD eb2 Db2
    have nnd2 : nl2 ≠ dr := by
      obtain ⟨_, _, k1, _⟩ := ca2.D
      exact (ne_of_none k1 hnl02).symm
    refine ⟨sz 4 rfl, fun kl2 hkl2 => ?_⟩
    obtain ⟨xc2, kkl2⟩ := newL (xs := [.str "lfp", .str "pfp", .str "tc", .str "guess"]) hkl2
    have cc2 := cb2.step0 xc2
    have nkd2 : kl2 ≠ dr := by
      obtain ⟨_, _, k1, _⟩ := cb2.D
      exact (ne_of_none k1 hkl2).symm
    have hn32 := ns0_len k2
    refine ⟨dr, l, pl2, ["x", "y"], nl2, ns0.take k2, kl2, _, 3, rfl, rfl, cc2.D, cc2.ne, .inl (.inl (xc2.get0 (eb2.get kpl2 (by simp [npd2])))), npd2, by decide, by decide, by decide +kernel, hnl2.ext xc2 (by simp), nnd2, by omega, ns0_small k2, .inl (.inl kkl2), nkd2, by omega, fun f2 vf2 He2 ee2 De2 hf2 hG2 hdp2 => ?_⟩
    have ce2 := cc2.stepD ee2 De2
    have E2 := (xa2.any (T := [dr])).trans (eb2.trans ((xc2.any (T := [dr])).trans ee2))
    have wf2 := gf_wf (by decide +kernel) f2 _ _ hG2 (ns0_ok k2)
    have pt2 := gf_pt f2 _ hG2
    have p32 : 3 ^ dp f2 ≤ 3 ^ 3 := Nat.pow_le_pow_right (by decide) (by omega)
    have e32 : (3 : Nat) ^ 3 = 27 := by decide
    have odd2 := oddw.ext E2
    have obad2 := obad.ext E2
    have z1 := odd2.pt
    have z2 := odd2.dp
    refine ⟨_, rfl, S, _, s00, rfl, odd2.rp, odd2.fo, odd2.wf, by omega, by omega, fun Hg eg => ?_⟩
    have odd3 := odd2.ext eg
    have obad3 := obad2.ext eg
    have hf3 := Rp.ext eg _ hf2
    have cg := ce2.step0 eg
    refine ⟨_, rfl, ifF rfl ?_⟩
    refine ⟨_, rfl, _, rfl, sz 2 rfl, fun w3 hw3 => ?_⟩
    obtain ⟨xw3, sw3⟩ := newT (K := K) (xs := [vf2, vS]) hw3
    refine ⟨sz 2 rfl, fun w4 hw4 => ?_⟩
    obtain ⟨xw4, sw4⟩ := newT (K := K) (xs := [.str "or", .ref w3]) hw4
    have Ey := xw3.trans xw4
    have cy := cg.step0 Ey
    have obad4 := obad3.ext Ey
    have oddy := odd3.ext Ey
    have oor : Odd K _ 30 (jn false [f2, S]) (.ref w4) := ⟨⟨_, _, _, rfl, sw4, xw4.tup sw3, _, _, rfl, Rp.ext Ey _ hf3, _, _, rfl, oddy.rp, rfl⟩, by show (fo f2 && (fo S && true)) = false; rw [odd.fo]; simp, ⟨by show 2 ≤ 40; decide, wf2, odd.wf, trivial⟩, by have := odd.pt; simp [pt, pts]; omega, by have := odd.dp; simp [dp, dps]; omega⟩
    have z3 := oor.pt
    have z4 := oor.dp
    refine ⟨_, _, s00, rfl, oor.rp, oor.fo, oor.wf, by omega, by omega, fun Hh eh => ?_⟩
    have obad5 := obad4.ext eh
    refine ⟨_, rfl, ifF rfl ?_⟩
    refine ⟨_, rfl, sz 2 rfl, fun w5 hw5 => ?_⟩
    obtain ⟨xw5, sw5⟩ := newT (K := K) (xs := [.str "not", .ref w2]) hw5
    have obad6 := obad5.ext xw5
    have z5 := obad6.pt
    have z6 := obad6.dp
    have pn : ∀ g : Fm, pt (neg g) = pt g + 1 := fun g => by simp [pt]
    have dn : ∀ g : Fm, dp (neg g) = dp g + 1 := fun g => by simp [dp]
    have pq : ∀ g : Fm, pt (qu false ["x"] g) = pt g + 1 := fun g => by simp [pt]
    have dq : ∀ g : Fm, dp (qu false ["x"] g) = dp g + 1 := fun g => by simp [dp]
    refine ⟨neg (jn true [f1, S]), _, s00, rfl, ⟨_, _, rfl, sw5, obad6.rp⟩, obad6.fo, obad6.wf, by rw [pn]; omega, by rw [dn]; omega, fun Hi ei => ?_⟩
    have obad7 := obad6.ext ei
    refine ⟨_, rfl, ifT rfl ?_⟩
    refine ⟨sz 1 rfl, fun w6 hw6 => ?_⟩
    obtain ⟨xw6, sw6⟩ := newT (K := K) (xs := [.str "x"]) hw6
    refine ⟨_, rfl, sz 3 rfl, fun w7 hw7 => ?_⟩
    obtain ⟨xw7, sw7⟩ := newT (K := K) (xs := [.str "some", .ref w6, .ref w2]) hw7
    have obad8 := obad7.ext (xw6.trans xw7)
    have nx : nmOk "x" := by decide +kernel
    exact ⟨qu false ["x"] (jn true [f1, S]), _, s00, rfl, ⟨_, _, _, rfl, sw7, xw7.tup sw6, obad8.rp⟩, obad8.fo, ⟨⟨by decide +kernel, by decide, by decide, by simpa using nx⟩, obad8.wf⟩, by rw [pq]; omega, by rw [dq]; omega, fun Hj _ => q Hj⟩
end
end Say
set_option maxRecDepth 100000
set_option maxHeartbeats 0
/-! the end: the head's facts, each def keeps its promise, the statement -/
namespace Say
open PySem PySem.Spec PyProof.Rows L2 Fm
theorem tx {w : World} {K : PySem.W.Frag} {h : Heap} {mg : Str → Option Value} (X : K.In h) (G : h.Ns mainGlobals mg) (s : SaysS w K) : Tx w K mg := by
  obtain ⟨c, e⟩ := s
  obtain ⟨e1, e⟩ := He.ba e
  obtain ⟨e2, e⟩ := He.ba e
  obtain ⟨e3, e⟩ := He.ba e
  obtain ⟨e4, e⟩ := He.ba e
  obtain ⟨e5, e⟩ := He.ba e
  obtain ⟨e6, e⟩ := He.ba e
  exact {
    qus := ⟨(He.glo_ok X G (c.d.fact 56 (f := .glo "QUANTIFIERS") rfl)), fun H => He.tupB_ok e1 H⟩
    fix := ⟨(He.glo_ok X G (c.d.fact 57 (f := .glo "FIXED") rfl)), fun H => He.tupB_ok e2 H⟩
    words := ⟨(He.glo_ok X G (c.d.fact 58 (f := .glo "WORDS") rfl)), fun H => He.tupB_ok e3 H⟩
    dual := ⟨(He.glo_ok X G (c.d.fact 59 (f := .glo "DUAL") rfl)), c.tab 0 rfl⟩
    dualV := fun q hq => by
      have hm : (q.1, He.Dv.str q.2) ∈ kDual := by
        have : (q.1, He.Dv.str q.2) ∈ (([("and", "or"), ("or", "and"), ("some", "all"), ("all", "some")] : List (Str × Str)).map fun q => (q.1, He.Dv.str q.2)) := List.mem_map.mpr ⟨q, hq, rfl⟩
        exact this
      exact He.valsB_ok e4 hm
    dualN := fun z hz => He.eqO_ok (List.all_eq_true.mp e6 z hz)
    lens := ⟨(He.glo_ok X G (c.d.fact 60 (f := .glo "LENGTHS") rfl)), c.tab 1 rfl⟩
    lensV := fun q hq => by
      have hm : (q.1, He.Dv.int q.2) ∈ kLens := by
        have : (q.1, He.Dv.int q.2) ∈ (([("rel", 3), ("eq", 3), ("less", 3), ("not", 2), ("and", 2), ("or", 2), ("some", 3), ("all", 3), ("lfp", 5), ("pfp", 5), ("tc", 4), ("guess", 4)] : List (Str × Int)).map fun q => (q.1, He.Dv.int q.2)) := List.mem_map.mpr ⟨q, hq, rfl⟩
        exact this
      exact He.valsB_ok e5 hm
    longest := He.int_ok X G (c.d.fact 65 (f := .int "LONGEST" 12) rfl)
    places := He.int_ok X G (c.d.fact 66 (f := .int "PLACES" 6) rfl)
    most := He.int_ok X G (c.d.fact 67 (f := .int "MOST" 2000) rfl)
    deepest := He.int_ok X G (c.d.fact 68 (f := .int "DEEPEST" 40) rfl)
    branches := He.int_ok X G (c.d.fact 69 (f := .int "BRANCHES" 40) rfl)
    guessed := He.int_ok X G (c.d.fact 70 (f := .int "GUESSED" 3) rfl)
    steps := He.int_ok X G (c.d.fact 71 (f := .int "STEPS" 8) rfl)
    letters := He.str_ok X G (c.d.fact 72 (f := .str "LETTERS" "abcdefghijklmnopqrstuvwxyz") rfl)
    figures := He.str_ok X G (c.d.fact 73 (f := .str "FIGURES" "0123456789") rfl)
    isi := He.free_ok X G (c.d.fact 74 (f := .free "isinstance") rfl)
    zint := He.free_ok X G (c.d.fact 75 (f := .free "int") rfl)
    zbool := He.free_ok X G (c.d.fact 76 (f := .free "bool") rfl)
    zstr := He.free_ok X G (c.d.fact 77 (f := .free "str") rfl)
    zlen := He.free_ok X G (c.d.fact 78 (f := .free "len") rfl)
    ztuple := He.free_ok X G (c.d.fact 79 (f := .free "tuple") rfl)
    zset := He.free_ok X G (c.d.fact 80 (f := .free "set") rfl)
    zdict := He.free_ok X G (c.d.fact 81 (f := .free "dict") rfl)
    zsorted := He.free_ok X G (c.d.fact 82 (f := .free "sorted") rfl)
    zrange := He.free_ok X G (c.d.fact 83 (f := .free "range") rfl)
    zlist := He.free_ok X G (c.d.fact 84 (f := .free "list") rfl)
    zmin := He.free_ok X G (c.d.fact 85 (f := .free "min") rfl)
    zsum := He.free_ok X G (c.d.fact 86 (f := .free "sum") rfl)
    gLook := (He.glo_ok X G (c.d.fact 61 (f := .glo "Look") rfl))
    cLook := He.cls_ok (c.d.fact 87 (f := .cls "Look") rfl)
    kLook := He.mkr_ok (c.d.fact 96 (f := .mkr "Look") rfl)
    gFresh := (He.glo_ok X G (c.d.fact 62 (f := .glo "Fresh") rfl))
    cFresh := He.cls_ok (c.d.fact 88 (f := .cls "Fresh") rfl)
    kFresh := He.mkr_ok (c.d.fact 97 (f := .mkr "Fresh") rfl)
    nCount := He.noat_ok (c.d.fact 89 (f := .noat "Look" "count") rfl)
    nFound := He.noat_ok (c.d.fact 90 (f := .noat "Look" "found") rfl)
    nUsed := He.noat_ok (c.d.fact 91 (f := .noat "Fresh" "used") rfl)
    nNumber := He.noat_ok (c.d.fact 92 (f := .noat "Fresh" "number") rfl)
    mGo := He.meth_ok (c.d.fact 93 (f := .meth "Look" "go") rfl)
    mRel := He.meth_ok (c.d.fact 94 (f := .meth "Look" "rel") rfl)
    mName := He.meth_ok (c.d.fact 95 (f := .meth "Fresh" "name") rfl) }
theorem tb {w : World} {K : PySem.W.Frag} {h : Heap} {mg : Str → Option Value} (X : K.In h) (G : h.Ns mainGlobals mg) (s : SaysS w K) : Tb K mg := by
  obtain ⟨c, e⟩ := s
  obtain ⟨_, e⟩ := He.ba e
  obtain ⟨_, e⟩ := He.ba e
  obtain ⟨_, e⟩ := He.ba e
  obtain ⟨_, e⟩ := He.ba e
  obtain ⟨_, e⟩ := He.ba e
  obtain ⟨_, e⟩ := He.ba e
  obtain ⟨e1, e⟩ := He.ba e
  obtain ⟨e2, e⟩ := He.ba e
  obtain ⟨e3, e⟩ := He.ba e
  obtain ⟨e4, e⟩ := He.ba e
  obtain ⟨e5, e⟩ := He.ba e
  obtain ⟨e6, e⟩ := He.ba e
  obtain ⟨e7, e⟩ := He.ba e
  obtain ⟨x1, x2, x3, x4⟩ := He.exc_ok (c.d.fact 98 (f := .exc "BadArgument") rfl)
  exact ⟨(He.glo_ok X G (c.d.fact 63 (f := .glo "BadArgument") rfl)), (He.glo_ok X G (c.d.fact 64 (f := .glo "BadFormula") rfl)), x1, x2, x3, x4, He.exm_ok (c.d.fact 99 (f := .exm "BadArgument" "BadArgument" true) rfl), ⟨He.eqO_ok e1, He.eqO_ok e2, x3, e3, He.eqO_ok e4, He.eqO_ok e5, of_decide_eq_true e6, of_decide_eq_true e7⟩, of_decide_eq_true e⟩
theorem facts {P : Program} {w : World} {K : PySem.W.Frag} {h : Heap} {mg : Str → Option Value} {f : Addr} (X : K.In h) (G : h.Ns mainGlobals mg) (hfa : mg ("law" : Str) = some (.ref f)) (s : SaysS w K) :
    ∃ fd : FuncData, (∀ (s : Shared) (v : Value), BindsTo s fd ⟨[v], []⟩ [("_law_script", v)]) ∧ ∀ base : Heap, K.In base → base.Ns mainGlobals mg → FnOk P w K mg base CX0 60 f fd ["_law_script"] (spLaw K) := by
  have c := s.1
  have T := tx X G s
  have TB := tb X G s
  obtain ⟨fd, F⟩ := c.d.def_ 55 (d := d_law) rfl
  have e := hfa.symm.trans (He.glo_ok X G (c.d.fact 55 (f := .glo "law") rfl))
  cases e
  have b := FunD.bindsA (ps := ["_law_script"]) F fun _ _ _ _ _ _ us hl => match us, hl with | [_], _ => rfl
  refine ⟨fd, fun s v => b s [v] rfl, fun base _ _ => ?_⟩
  have h_inner : Hs P w K mg base CX0 1 "inner" ["formula"] (spInner K) := hs_inner T ⟨(He.glo_ok X G (c.d.fact 3 (f := .glo "inner") rfl)), c.d.def_ 3 (d := d_inner) rfl⟩
  have h_own_variables : Hs P w K mg base CX0 1 "own_variables" ["formula"] (spOwnV K) := hs_ownV T ⟨(He.glo_ok X G (c.d.fact 5 (f := .glo "own_variables") rfl)), c.d.def_ 5 (d := d_own_variables) rfl⟩
  have h_own_arguments : Hs P w K mg base CX0 1 "own_arguments" ["formula"] (spOwnA K) := hs_ownA T ⟨(He.glo_ok X G (c.d.fact 7 (f := .glo "own_arguments") rfl)), c.d.def_ 7 (d := d_own_arguments) rfl⟩
  have h_own_name : Hs P w K mg base CX0 1 "own_name" ["formula"] (spOwnN K) := hs_ownN T ⟨(He.glo_ok X G (c.d.fact 6 (f := .glo "own_name") rfl)), c.d.def_ 6 (d := d_own_name) rfl⟩
  have h_rebuilt : Hs P w K mg base CX0 1 "rebuilt" ["formula", "parts"] (spRebuilt K) := hs_rebuilt T ⟨(He.glo_ok X G (c.d.fact 4 (f := .glo "rebuilt") rfl)), c.d.def_ 4 (d := d_rebuilt) rfl⟩
  have h_is_integer : Hs P w K mg base CX0 1 "is_integer" ["value"] spIsInt := hs_is_integer T ⟨(He.glo_ok X G (c.d.fact 0 (f := .glo "is_integer") rfl)), c.d.def_ 0 (d := d_is_integer) rfl⟩
  have h_is_below : Hs P w K mg base CX0 2 "is_below" ["value", "bound"] spBelow := hs_is_below T ⟨(He.glo_ok X G (c.d.fact 1 (f := .glo "is_below") rfl)), c.d.def_ 1 (d := d_is_below) rfl⟩ h_is_integer
  have h_is_name : Hs P w K mg base CX0 1 "is_name" ["text"] spIsName := hs_is_name T ⟨(He.glo_ok X G (c.d.fact 2 (f := .glo "is_name") rfl)), c.d.def_ 2 (d := d_is_name) rfl⟩
  have h_are_names : Hs P w K mg base CX0 2 "are_names" ["value", "least", "most"] (spAreNames K) := hs_are_names T ⟨(He.glo_ok X G (c.d.fact 8 (f := .glo "are_names") rfl)), c.d.def_ 8 (d := d_are_names) rfl⟩ h_is_name
  have h_are_variables : Hs P w K mg base CX0 3 "are_variables" ["value", "least", "most"] (spAreVars K) := hs_are_variables T ⟨(He.glo_ok X G (c.d.fact 9 (f := .glo "are_variables") rfl)), c.d.def_ 9 (d := d_are_variables) rfl⟩ h_are_names
  have h_is_well_made : Hs P w K mg base CX0 4 "is_well_made" ["formula"] (spWm K) := hs_is_well_made T ⟨(He.glo_ok X G (c.d.fact 10 (f := .glo "is_well_made") rfl)), c.d.def_ 10 (d := d_is_well_made) rfl⟩ h_is_name h_is_below h_are_names h_are_variables
  have h_occurs0 : ∀ n, Hs P w K mg base CX0 (1 + n + 1) "occurs" ["formula", "name"] (spOcc K n) := hs_occurs T ⟨(He.glo_ok X G (c.d.fact 12 (f := .glo "occurs") rfl)), c.d.def_ 12 (d := d_occurs) rfl⟩ h_own_name h_inner
  have h_agrees0 : ∀ n, Hs P w K mg base CX0 (2 + n + 1) "agrees" ["formula", "name", "even"] (spAg K n) := hs_agrees T ⟨(He.glo_ok X G (c.d.fact 11 (f := .glo "agrees") rfl)), c.d.def_ 11 (d := d_agrees) rfl⟩ h_own_name h_inner h_occurs0
  have h_is_plain0 : ∀ n, Hs P w K mg base CX0 (1 + n + 1) "is_plain" ["formula"] (spPlain K n) := hs_is_plain T ⟨(He.glo_ok X G (c.d.fact 16 (f := .glo "is_plain") rfl)), c.d.def_ 16 (d := d_is_plain) rfl⟩ h_inner
  have hi_Look : Hi P w K mg base CX0 1 (cLk K) ["self"] (spLInit K) := hi_Look_of T ⟨He.mkr_ok (c.d.fact 96 (f := .mkr "Look") rfl), c.d.def_ 56 (d := d_Look_init) rfl⟩
  have hm_Look_rel : Hm P w K mg base CX0 1 (cLk K) "rel" ["self", "name", "arity", "bound"] (spLRel K) := hm_Look_rel_of T ⟨He.meth_ok (c.d.fact 94 (f := .meth "Look" "rel") rfl), c.d.def_ 57 (d := d_Look_rel) rfl⟩
  have hm_Look_go0 : ∀ n, Hm P w K mg base CX0 (4 + n + 1) (cLk K) "go" ["self", "formula", "bound", "deep"] (spGo K n) := hm_Look_go_of T ⟨He.meth_ok (c.d.fact 93 (f := .meth "Look" "go") rfl), c.d.def_ 58 (d := d_Look_go) rfl⟩ h_is_well_made h_own_name h_inner h_agrees0 hm_Look_rel
  have h_looked : Hs P w K mg base CX0 46 "looked" ["formula"] (spLooked K) := hs_looked T ⟨(He.glo_ok X G (c.d.fact 13 (f := .glo "looked") rfl)), c.d.def_ 13 (d := d_looked) rfl⟩ hi_Look hm_Look_go0
  have h_check_formula : Hs P w K mg base CX0 47 "check_formula" ["formula"] (spCheck K) := hs_check_formula T ⟨(He.glo_ok X G (c.d.fact 15 (f := .glo "check_formula") rfl)), c.d.def_ 15 (d := d_check_formula) rfl⟩ h_looked
  have h_all_names0 : ∀ n, Hs P w K mg base CX0 (1 + n + 1) "all_names" ["formula"] (spAll K n) := hs_all_names T ⟨(He.glo_ok X G (c.d.fact 14 (f := .glo "all_names") rfl)), c.d.def_ 14 (d := d_all_names) rfl⟩ h_own_name h_inner h_own_arguments h_own_variables
  have hi_Fresh : Hi P w K mg base CX0 1 (cFr K) ["self", "used"] (spFInit K) := hi_Fresh_of T ⟨He.mkr_ok (c.d.fact 97 (f := .mkr "Fresh") rfl), c.d.def_ 59 (d := d_Fresh_init) rfl⟩
  have hm_Fresh_name : Hm P w K mg base CX0 1 (cFr K) "name" ["self"] (spFName K) := hm_Fresh_name_of T ⟨He.meth_ok (c.d.fact 95 (f := .meth "Fresh" "name") rfl), c.d.def_ 60 (d := d_Fresh_name) rfl⟩
  have h_fresh_for : Hs P w K mg base CX0 43 "fresh_for" ["formulas"] (spFF K) := hs_fresh_for T ⟨(He.glo_ok X G (c.d.fact 17 (f := .glo "fresh_for") rfl)), c.d.def_ 17 (d := d_fresh_for) rfl⟩ h_all_names0 hi_Fresh
  have h_named : Hs P w K mg base CX0 1 "named" ["names", "known"] (spNamed K) := hs_named T ⟨(He.glo_ok X G (c.d.fact 18 (f := .glo "named") rfl)), c.d.def_ 18 (d := d_named) rfl⟩
  have h_with_own : Hs P w K mg base CX0 2 "with_own" ["formula", "known", "fresh"] (spWith K) := hs_with_own T ⟨(He.glo_ok X G (c.d.fact 19 (f := .glo "with_own") rfl)), c.d.def_ 19 (d := d_with_own) rfl⟩ h_own_variables h_named hm_Fresh_name
  have h_renamed0 : ∀ n, Hs P w K mg base CX0 (2 + n + 1) "renamed" ["formula", "known", "fresh"] (spRen K n) := hs_renamed T ⟨(He.glo_ok X G (c.d.fact 20 (f := .glo "renamed") rfl)), c.d.def_ 20 (d := d_renamed) rfl⟩ h_with_own h_inner h_rebuilt
  have h_sized : Hs P w K mg base CX0 47 "sized" ["formula"] (spSized K) := hs_sized T ⟨(He.glo_ok X G (c.d.fact 21 (f := .glo "sized") rfl)), c.d.def_ 21 (d := d_sized) rfl⟩ h_looked
  have h_moved0 : ∀ n, Hs P w K mg base CX0 (1 + n + 1) "moved" ["formula", "even"] (spMoved K n) := hs_moved T ⟨(He.glo_ok X G (c.d.fact 22 (f := .glo "moved") rfl)), c.d.def_ 22 (d := d_moved) rfl⟩ h_inner h_rebuilt
  have h_pulled0 : ∀ n, Hs P w K mg base CX0 (0 + n + 1) "pulled" ["formula"] (spPull K n) := hs_pulled T ⟨(He.glo_ok X G (c.d.fact 24 (f := .glo "pulled") rfl)), c.d.def_ 24 (d := d_pulled) rfl⟩
  have h_gathered : Hs P w K mg base CX0 1 "gathered" ["heads"] (spGat K) := hs_gathered T ⟨(He.glo_ok X G (c.d.fact 25 (f := .glo "gathered") rfl)), c.d.def_ 25 (d := d_gathered) rfl⟩
  have h_prenex : Hs P w K mg base CX0 48 "prenex" ["formula"] (spPx K) := hs_prenex T ⟨(He.glo_ok X G (c.d.fact 26 (f := .glo "prenex") rfl)), c.d.def_ 26 (d := d_prenex) rfl⟩ h_looked h_sized h_is_plain0 h_moved0 h_fresh_for h_renamed0 h_pulled0 h_gathered
  have h_prenexX : Hs P w K mg base (CX P w) 47 "prenex" ["formula"] (spPxX K) := hs_prenexX T TB ⟨(He.glo_ok X G (c.d.fact 26 (f := .glo "prenex") rfl)), c.d.def_ 26 (d := d_prenex) rfl⟩ h_looked h_is_plain0
  have h_law_refused : Hs P w K mg base CX0 48 "_law_refused" ["_law_f"] (spRef K) := hs_refused T TB ⟨(He.glo_ok X G (c.d.fact 52 (f := .glo "_law_refused") rfl)), c.d.def_ 52 (d := d_law_refused) rfl⟩ h_prenexX
  have h_apart : Hs P w K mg base CX0 48 "apart" ["formula"] (spApart K) := hs_apart T ⟨(He.glo_ok X G (c.d.fact 23 (f := .glo "apart") rfl)), c.d.def_ 23 (d := d_apart) rfl⟩ h_looked h_sized h_fresh_for h_renamed0
  have h_law_theirs : Hs P w K mg base CX0 49 "_law_theirs" [] (spTheirs K) := hs_theirs T ⟨(He.glo_ok X G (c.d.fact 54 (f := .glo "_law_theirs") rfl)), c.d.def_ 54 (d := d_law_theirs) rfl⟩ h_apart
  have h_law_mixed : Hs P w K mg base CX0 1 "_law_mixed" ["_law_number", "_law_k"] spMixed := hs_mixed T ⟨(He.glo_ok X G (c.d.fact 27 (f := .glo "_law_mixed") rfl)), c.d.def_ 27 (d := d_law_mixed) rfl⟩
  have h_law_numbers : Hs P w K mg base CX0 2 "_law_numbers" ["_law_script"] (spNums K) := hs_numbers T ⟨(He.glo_ok X G (c.d.fact 28 (f := .glo "_law_numbers") rfl)), c.d.def_ 28 (d := d_law_numbers) rfl⟩ h_law_mixed
  have h_law_draw : Hs P w K mg base CX0 2 "_law_draw" ["_law_draws"] (spDraw K) := hs_draw T ⟨(He.glo_ok X G (c.d.fact 29 (f := .glo "_law_draw") rfl)), c.d.def_ 29 (d := d_law_draw) rfl⟩ h_law_mixed
  have h_law_some_of : Hs P w K mg base CX0 3 "_law_some_of" ["_law_draws", "_law_pool", "_law_many"] (spSome K) := hs_some_of T ⟨(He.glo_ok X G (c.d.fact 30 (f := .glo "_law_some_of") rfl)), c.d.def_ 30 (d := d_law_some_of) rfl⟩ h_law_draw
  have h_law_within : Hs P w K mg base CX0 1 "_law_within" ["_law_names_here", "_law_name", "_law_arity", "_law_mode"] (spWithin K) := hs_within T ⟨(He.glo_ok X G (c.d.fact 32 (f := .glo "_law_within") rfl)), c.d.def_ 32 (d := d_law_within) rfl⟩
  have h_law_turned : Hs P w K mg base CX0 1 "_law_turned" ["_law_names_here"] (spTurned K) := hs_turned T ⟨(He.glo_ok X G (c.d.fact 33 (f := .glo "_law_turned") rfl)), c.d.def_ 33 (d := d_law_turned) rfl⟩
  have h_law_barred : Hs P w K mg base CX0 1 "_law_barred" ["_law_names_here"] (spBarred K) := hs_barred T ⟨(He.glo_ok X G (c.d.fact 34 (f := .glo "_law_barred") rfl)), c.d.def_ 34 (d := d_law_barred) rfl⟩
  have h_law_names : Hs P w K mg base CX0 3 "_law_names" ["_law_draws"] (spNames K) := hs_names T ⟨(He.glo_ok X G (c.d.fact 37 (f := .glo "_law_names") rfl)), c.d.def_ 37 (d := d_law_names) rfl⟩ h_law_draw
  have h_law_atom : Hs P w K mg base CX0 3 "_law_atom" ["_law_draws", "_law_pool", "_law_names_here"] (spAtom K) := hs_atom T ⟨(He.glo_ok X G (c.d.fact 31 (f := .glo "_law_atom") rfl)), c.d.def_ 31 (d := d_law_atom) rfl⟩ h_law_draw
  have h_law_formula0 : ∀ n, Hs P w K mg base CX0 (4 + 2 * n + 1) "_law_formula" ["_law_draws", "_law_deep", "_law_pool", "_law_names_here", "_law_kinds"] (spForm K true n) := hs_formula T ⟨(He.glo_ok X G (c.d.fact 36 (f := .glo "_law_formula") rfl)), c.d.def_ 36 (d := d_law_formula) rfl⟩ ⟨(He.glo_ok X G (c.d.fact 35 (f := .glo "_law_bound") rfl)), c.d.def_ 35 (d := d_law_bound) rfl⟩ true h_law_draw h_law_some_of h_law_within h_law_barred h_law_turned h_law_atom
  have h_law_formulaF0 : ∀ n, Hs P w K mg base CX0 (4 + 2 * n + 1) "_law_formula" ["_law_draws", "_law_deep", "_law_pool", "_law_names_here", "_law_kinds"] (spForm K false n) := hs_formula T ⟨(He.glo_ok X G (c.d.fact 36 (f := .glo "_law_formula") rfl)), c.d.def_ 36 (d := d_law_formula) rfl⟩ ⟨(He.glo_ok X G (c.d.fact 35 (f := .glo "_law_bound") rfl)), c.d.def_ 35 (d := d_law_bound) rfl⟩ false h_law_draw h_law_some_of h_law_within h_law_barred h_law_turned h_law_atom
  have h_law_parts : Hs P w K mg base CX0 1 "_law_parts" ["_law_f"] (spParts K) := hs_parts T ⟨(He.glo_ok X G (c.d.fact 38 (f := .glo "_law_parts") rfl)), c.d.def_ 38 (d := d_law_parts) rfl⟩
  have h_law_bound_here : Hs P w K mg base CX0 1 "_law_bound_here" ["_law_f"] (spBH K) := hs_bound_here T ⟨(He.glo_ok X G (c.d.fact 39 (f := .glo "_law_bound_here") rfl)), c.d.def_ 39 (d := d_law_bound_here) rfl⟩
  have h_law_own : Hs P w K mg base CX0 1 "_law_own" ["_law_f"] (spLOwn K) := hs_law_own T ⟨(He.glo_ok X G (c.d.fact 40 (f := .glo "_law_own") rfl)), c.d.def_ 40 (d := d_law_own) rfl⟩
  have h_law_plain0 : ∀ n, Hs P w K mg base CX0 (1 + n + 1) "_law_plain" ["_law_f"] (spLPlain K n) := hs_law_plain T ⟨(He.glo_ok X G (c.d.fact 51 (f := .glo "_law_plain") rfl)), c.d.def_ 51 (d := d_law_plain) rfl⟩ h_law_parts
  have h_law_quantifiers0 : ∀ n, Hs P w K mg base CX0 (1 + n + 1) "_law_quantifiers" ["_law_f"] (spQuant K n) := hs_quantifiers T ⟨(He.glo_ok X G (c.d.fact 53 (f := .glo "_law_quantifiers") rfl)), c.d.def_ 53 (d := d_law_quantifiers) rfl⟩ h_law_parts h_law_bound_here
  have h_law_matrix : Hs P w K mg base CX0 1 "_law_matrix" ["_law_f"] (spMat K) := hs_matrix T ⟨(He.glo_ok X G (c.d.fact 50 (f := .glo "_law_matrix") rfl)), c.d.def_ 50 (d := d_law_matrix) rfl⟩
  have h_law_cost0 : ∀ n, Hs P w K mg base CX0 (1 + n + 1) "_law_cost" ["_law_f", "_law_n"] (spCost K n) := hs_cost T ⟨(He.glo_ok X G (c.d.fact 46 (f := .glo "_law_cost") rfl)), c.d.def_ 46 (d := d_law_cost) rfl⟩ h_law_parts h_law_bound_here
  have h_law_free0 : ∀ n, Hs P w K mg base CX0 (1 + n + 1) "_law_free" ["_law_f"] (spFree K n) := hs_free T ⟨(He.glo_ok X G (c.d.fact 41 (f := .glo "_law_free") rfl)), c.d.def_ 41 (d := d_law_free) rfl⟩ h_law_parts h_law_bound_here h_law_own
  have h_law_symbols0 : ∀ n, Hs P w K mg base CX0 (1 + n + 1) "_law_symbols" ["_law_f"] (spSym K n) := hs_symbols T ⟨(He.glo_ok X G (c.d.fact 42 (f := .glo "_law_symbols") rfl)), c.d.def_ 42 (d := d_law_symbols) rfl⟩ h_law_parts
  have h_law_tuples : Hs P w K mg base CX0 1 "_law_tuples" ["_law_n", "_law_width"] (spTuples K) := hs_tuples T ⟨(He.glo_ok X G (c.d.fact 43 (f := .glo "_law_tuples") rfl)), c.d.def_ 43 (d := d_law_tuples) rfl⟩
  have h_law_with : Hs P w K mg base CX0 1 "_law_with" ["_law_values", "_law_names_here", "_law_row"] (spLWith K) := hs_with T ⟨(He.glo_ok X G (c.d.fact 44 (f := .glo "_law_with") rfl)), c.d.def_ 44 (d := d_law_with) rfl⟩
  have h_law_true0 : ∀ n, Hs P w K mg base CX0 (1 + n + 1) "_law_true" ["_law_f", "_law_n", "_law_rows_here", "_law_values"] (spTrue K n) := hs_true T ⟨(He.glo_ok X G (c.d.fact 45 (f := .glo "_law_true") rfl)), c.d.def_ 45 (d := d_law_true) rfl⟩ h_law_tuples h_law_with
  have h_law_subset : Hs P w K mg base CX0 3 "_law_subset" ["_law_draws", "_law_rows_here"] (spSubset K) := hs_subset T ⟨(He.glo_ok X G (c.d.fact 47 (f := .glo "_law_subset") rfl)), c.d.def_ 47 (d := d_law_subset) rfl⟩ h_law_draw
  have h_law_world : Hs P w K mg base CX0 4 "_law_world" ["_law_draws", "_law_n"] (spWorld K) := hs_world T ⟨(He.glo_ok X G (c.d.fact 48 (f := .glo "_law_world") rfl)), c.d.def_ 48 (d := d_law_world) rfl⟩ h_law_subset h_law_tuples
  have h_law_rows : Hs P w K mg base CX0 1 "_law_rows" ["_law_relations"] (spRowsL K) := hs_rows T ⟨(He.glo_ok X G (c.d.fact 49 (f := .glo "_law_rows") rfl)), c.d.def_ 49 (d := d_law_rows) rfl⟩
  exact ok_law T F h_law_numbers h_law_draw h_law_rows h_law_world h_law_theirs h_law_formula0 h_law_formulaF0 h_law_names h_law_quantifiers0 h_prenex h_check_formula h_law_plain0 h_law_matrix h_law_free0 h_law_symbols0 h_law_cost0 h_law_with h_law_true0 h_law_refused
end Say
open PySem PySem.W PySem.Calls PyProof.Rows
theorem PySem.Challenge.cw_sayso_k22_whole_prenex_forms_holds : PySem.Challenge.rw_sayso_k22_whole_prenex_forms.Holds := by
  w_on; o_law
  refine HandSHeadRun.head_any (r := OpenLaw.row PySem.Challenge.rw_sayso_k22_whole_prenex_forms) (q := view (OpenLaw.row PySem.Challenge.rw_sayso_k22_whole_prenex_forms).prog [86]) (H := Say.hk) (ob := Say.ob) (M := 6000) (loose := Say.loose) (d := HandSHeadRun.topDef (OpenLaw.row PySem.Challenge.rw_sayso_k22_whole_prenex_forms).prog 86) (kwd := []) Say.ob_eq
    (by kernel_rfl) (fun s => by kernel_rfl) Say.run (by kernel_rfl) (by kernel_rfl) (by kernel_rfl) (by rfl) (by first | assumption | decide +kernel) (by decide +kernel) ⟨rfl, rfl, rfl, rfl, rfl, by decide +kernel⟩ ?hw ?hc
  case hw => w_witness2
  case hc =>
    refine L2.walk_ofE (l := PySem.Challenge.rw_sayso_k22_whole_prenex_forms) (n := 63) (k := 60) (x := "_law_script") (CX := L2.CX0) rfl (by decide) (by kernel_rfl) ⟨rfl, by decide, by decide⟩ ?F (fun _ _ _ _ z => z)
    intro w mg fa h Y G hmg0
    obtain ⟨K, KX, c⟩ := Y
    have hmg : mg ("law" : PySem.Str) = some (.ref fa) := by
      have e : (HandSHeadRun.topDef (OpenLaw.row PySem.Challenge.rw_sayso_k22_whole_prenex_forms).prog 86).name = ("law" : PySem.Str) := by kernel_rfl
      rw [← e]
      exact hmg0
    obtain ⟨fd, hb, hF⟩ := Say.facts (P := (PySem.Challenge.rw_sayso_k22_whole_prenex_forms).prog) (w := w) KX G hmg c
    exact ⟨K, fd, Say.spLaw K, KX, hb, fun H a ns hl _ hS => ⟨a, ns, rfl, hS, hl, fun _ => rfl⟩, hF⟩
