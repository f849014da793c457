import PyProof.Rows.All
import Wide.All
import OpenK.AllK
import Wide.FinOn
import HandS.ForMost
import HandS.Exc
import HandS.WordsExc
import HandS.TryMany
import HandS.ExcInit
import HandS.Head0
import KE.KStateDown
import HandS.Head1
import HandS.Head2
import HandS.HeadEnd
import HandS.ExcField
import HandS.Defaults
import HandS.IsInst
import HandS.OwnEq
import HandS.DictComp
import HandS.SetKeys
import HandS.Walk
import HandS.Flow
import HandS.Conv
import HandS.TupAny
import HandS.Zip
import HandS.Style
import HandS.HeadHook1
import HandS.HeadHook2
import HandS.HeadHook3
import HandS.HeadHook4
import KE.GoesNew
import KE.GoesEnum
import HandS.SetBool
import HandS.SetFor
import HandS.SetTxt0
import PyProof.Rows.SortShellAny
import HandS.Property
import KE.KOpsOwn
import PyProof.InstNe
import KE.KDictList
import KE.KDictSum
import PyProof.TupleOfGen
import KE.KDictZip
import KE.GoesMore
import HandS.TupSets
import HandS.Deep
import PyProof.SeqRoads2
import PyProof.AutoSeq1
import HandS.RaiseMore
import PyProof.StrOps2
import HandS.TryOnly
import PySem.Challenge.RW_readmoments_k14_pinned_programs
set_option Elab.async false
set_option linter.all false
set_option maxRecDepth 100000
set_option maxHeartbeats 2000000
namespace RM
open PySem PySem.Spec PyProof.Rows L2
def insB (K : PySem.W.Frag) (x : Str) : Bool := He.eqO (PySem.W.findIn K (.ref (He.ga K x)) "__class__") (some (some (.builtin "object.__class__"))) &&
  (He.eqO (PySem.W.specialIn K (.builtin "object.__class__") "__get__") (some (some (.builtin "getset_descriptor.__get__"))) && (decide (PySem.W.takesIn K (.builtin "object.__class__") = some true) &&
    decide (PySem.W.mroIn K (He.ga K x) (.type "object") = some true)))
def kitC (K : PySem.W.Frag) (x y : Str) (b : Bool) : Bool := decide (PySem.W.kitOne K (.ref (He.ga K x)) (.ref (He.ga K y)) = some b)
def spcB (K : PySem.W.Frag) (x m : Str) : Bool := He.eqO (PySem.W.findIn K (.ref (He.ga K x)) m) (some (some (.ref (He.ma K (He.ga K x) m)))) && PySem.W.isFn K (.ref (He.ma K (He.ga K x) m))
def oexB (K : PySem.W.Frag) (C : Addr) : Bool :=
  (match K.lookup C with
    | some ⟨.type t, _, .cls cd, sl⟩ => (match cd.mro, sl.toList with
      | .ref c :: bm, [_, _, _, _, some (.builtin n), _] => decide (t = "type") && (decide (c = C) && (decide (n = "ValueError.__new__") && ((!cd.hasDel) && (cd.hasDict && PySem.HandSPX.refsVE bm))))
      | _, _ => false)
    | _ => false) &&
  (He.eqO (PySem.W.findIn K (.ref C) "__setattr__") (some (some (.builtin "object.__setattr__"))) && (decide (PySem.W.subIn K (.ref C) (.type "BaseException") = some true) &&
    (decide (PySem.W.typeIn K (.ref C) = some (.type "type")) && PySem.W.keepIn K (.ref C))))
def twoB (K : PySem.W.Frag) (x y : Str) : Bool :=
  let C := He.ga K x; let D := He.ga K y
  PySem.W.selfFirst K C && (PySem.W.selfFirst K D && (decide (D ≠ C) && (spcB K x "__add__" && (spcB K y "__add__" && (decide (PySem.W.subIn K (.ref D) (.ref C) = some false) &&
    ((He.eqO (PySem.W.findIn K (.ref C) "__radd__") (some none) || spcB K x "__radd__") && (He.eqO (PySem.W.findIn K (.ref D) "__radd__") (some none) || spcB K y "__radd__")))))))
def empB (K : PySem.W.Frag) (a : Addr) : Bool := match K.lookup a with
  | some ⟨.type c, _, .seq its _, _⟩ => decide (c = "tuple") && decide (its.size = 0)
  | _ => false
end RM

set_option Elab.async false
set_option linter.all false
set_option maxRecDepth 100000
set_option maxHeartbeats 0
namespace RM
open PySem PySem.Spec PyProof.Rows L2
def top (i : Nat) : Stmt := PySem.Challenge.pw_readmoments_k14_pinned_programs.main.body.getD i (.Pass ⟨0, 0, 0, 0⟩)
abbrev s_BadValue_init : Stmt := inClass (top 5) 0
abbrev s_NoKey_init : Stmt := inClass (top 6) 0
abbrev s_BadStatement_init : Stmt := inClass (top 7) 0
abbrev s_BadSchedule_init : Stmt := inClass (top 8) 0
abbrev s_is_word : Stmt := top 14
abbrev s_is_value : Stmt := top 15
abbrev s_checked : Stmt := top 16
abbrev s_Change_init : Stmt := inClass (top 17) 0
abbrev s_Change_settings : Stmt := inClass (top 17) 1
abbrev s_Change_eq : Stmt := inClass (top 17) 2
abbrev s_Change_add : Stmt := inClass (top 17) 3
abbrev s_Change_contains : Stmt := inClass (top 17) 4
abbrev s_Change_len : Stmt := inClass (top 17) 5
abbrev s_Change_bool : Stmt := inClass (top 17) 6
abbrev s_Surroundings_init : Stmt := inClass (top 18) 0
abbrev s_Surroundings_keys_of : Stmt := inClass (top 18) 1
abbrev s_Surroundings_state : Stmt := inClass (top 18) 2
abbrev s_Surroundings_getitem : Stmt := inClass (top 18) 3
abbrev s_Surroundings_setitem : Stmt := inClass (top 18) 4
abbrev s_Surroundings_iter : Stmt := inClass (top 18) 5
abbrev s_Surroundings_add : Stmt := inClass (top 18) 6
abbrev s_Surroundings_radd : Stmt := inClass (top 18) 7
abbrev s_Surroundings_iadd : Stmt := inClass (top 18) 8
abbrev s_Surroundings_eq : Stmt := inClass (top 18) 9
abbrev s_Surroundings_contains : Stmt := inClass (top 18) 10
abbrev s_Surroundings_len : Stmt := inClass (top 18) 11
abbrev s_changed : Stmt := top 19
abbrev s_is_item : Stmt := top 24
abbrev s_is_statement : Stmt := top 25
abbrev s_bodies_of : Stmt := top 26
abbrev s_check_body : Stmt := top 27
abbrev s_as_tuples : Stmt := top 28
abbrev s_all_statements : Stmt := top 29
abbrev s_depth_of : Stmt := top 30
abbrev s_check_size : Stmt := top 31
abbrev s_names_in : Stmt := top 32
abbrev s_Program_init : Stmt := inClass (top 33) 0
abbrev s_Program_eq : Stmt := inClass (top 33) 1
abbrev s_Program_reads : Stmt := inClass (top 33) 2
abbrev s_Program_keys_of : Stmt := inClass (top 33) 3
abbrev s_Program_variables : Stmt := inClass (top 33) 4
abbrev s_Outcome_init : Stmt := inClass (top 35) 0
abbrev s_check_keys : Stmt := top 36
abbrev s_check_schedule : Stmt := top 37
abbrev s_Runner_init : Stmt := inClass (top 38) 0
abbrev s_Runner_wait : Stmt := inClass (top 38) 1
abbrev s_Runner_value_of : Stmt := inClass (top 38) 2
abbrev s_Runner_branch : Stmt := inClass (top 38) 3
abbrev s_Runner_statement : Stmt := inClass (top 38) 4
abbrev s_Runner_execute : Stmt := inClass (top 38) 5
abbrev s_run : Stmt := top 39
abbrev s_frozen : Stmt := top 40
abbrev s_free_names : Stmt := top 42
abbrev s_replaced : Stmt := top 43
abbrev s_with_reads : Stmt := top 44
abbrev s_pinned : Stmt := top 45
abbrev s_law_begin : Stmt := top 47
abbrev s_law_draw : Stmt := top 48
abbrev s_law_values : Stmt := top 49
abbrev s_law_changes : Stmt := top 50
abbrev s_law_variable : Stmt := top 51
abbrev s_law_plain : Stmt := top 52
abbrev s_law_body : Stmt := top 53
abbrev s_law_size : Stmt := top 54
abbrev s_law_prints : Stmt := top 55
abbrev s_law_short : Stmt := top 56
abbrev s_law_case : Stmt := top 57
abbrev s_law_do : Stmt := top 58
abbrev s_law_go : Stmt := top 59
abbrev s_law_run : Stmt := top 60
abbrev s_law_frozen : Stmt := top 61
abbrev s_law_of_moment : Stmt := top 62
abbrev s_law_schedule : Stmt := top 63
abbrev s_law_made : Stmt := top 64
abbrev s_law_free : Stmt := top 65
abbrev s_law_put : Stmt := top 66
abbrev s_law_pinned : Stmt := top 67
abbrev s_law_like : Stmt := top 68
abbrev s_law : Stmt := top 69
def d_BadValue_init : He.DefD := ⟨("BadValue", some "__init__"), "__init__", "BadValue.__init__", defArgs s_BadValue_init, defBody s_BadValue_init, defScope s_BadValue_init, [], []⟩
def d_NoKey_init : He.DefD := ⟨("NoKey", some "__init__"), "__init__", "NoKey.__init__", defArgs s_NoKey_init, defBody s_NoKey_init, defScope s_NoKey_init, [], []⟩
def d_BadStatement_init : He.DefD := ⟨("BadStatement", some "__init__"), "__init__", "BadStatement.__init__", defArgs s_BadStatement_init, defBody s_BadStatement_init, defScope s_BadStatement_init, [], []⟩
def d_BadSchedule_init : He.DefD := ⟨("BadSchedule", some "__init__"), "__init__", "BadSchedule.__init__", defArgs s_BadSchedule_init, defBody s_BadSchedule_init, defScope s_BadSchedule_init, [], []⟩
def d_is_word : He.DefD := ⟨("is_word", none), "is_word", "is_word", defArgs s_is_word, defBody s_is_word, defScope s_is_word, [], []⟩
def d_is_value : He.DefD := ⟨("is_value", none), "is_value", "is_value", defArgs s_is_value, defBody s_is_value, defScope s_is_value, [], []⟩
def d_checked : He.DefD := ⟨("checked", none), "checked", "checked", defArgs s_checked, defBody s_checked, defScope s_checked, [], []⟩
def d_Change_init : He.DefD := ⟨("Change", some "__init__"), "__init__", "Change.__init__", defArgs s_Change_init, defBody s_Change_init, defScope s_Change_init, [], []⟩
def d_Change_settings : He.DefD := ⟨("Change", some "settings"), "settings", "Change.settings", defArgs s_Change_settings, defBody s_Change_settings, defScope s_Change_settings, [], []⟩
def d_Change_eq : He.DefD := ⟨("Change", some "__eq__"), "__eq__", "Change.__eq__", defArgs s_Change_eq, defBody s_Change_eq, defScope s_Change_eq, [], []⟩
def d_Change_add : He.DefD := ⟨("Change", some "__add__"), "__add__", "Change.__add__", defArgs s_Change_add, defBody s_Change_add, defScope s_Change_add, [], []⟩
def d_Change_contains : He.DefD := ⟨("Change", some "__contains__"), "__contains__", "Change.__contains__", defArgs s_Change_contains, defBody s_Change_contains, defScope s_Change_contains, [], []⟩
def d_Change_len : He.DefD := ⟨("Change", some "__len__"), "__len__", "Change.__len__", defArgs s_Change_len, defBody s_Change_len, defScope s_Change_len, [], []⟩
def d_Change_bool : He.DefD := ⟨("Change", some "__bool__"), "__bool__", "Change.__bool__", defArgs s_Change_bool, defBody s_Change_bool, defScope s_Change_bool, [], []⟩
def d_Surroundings_init : He.DefD := ⟨("Surroundings", some "__init__"), "__init__", "Surroundings.__init__", defArgs s_Surroundings_init, defBody s_Surroundings_init, defScope s_Surroundings_init, [], []⟩
def d_Surroundings_keys_of : He.DefD := ⟨("Surroundings", some "keys_of"), "keys_of", "Surroundings.keys_of", defArgs s_Surroundings_keys_of, defBody s_Surroundings_keys_of, defScope s_Surroundings_keys_of, [], []⟩
def d_Surroundings_state : He.DefD := ⟨("Surroundings", some "state"), "state", "Surroundings.state", defArgs s_Surroundings_state, defBody s_Surroundings_state, defScope s_Surroundings_state, [], []⟩
def d_Surroundings_getitem : He.DefD := ⟨("Surroundings", some "__getitem__"), "__getitem__", "Surroundings.__getitem__", defArgs s_Surroundings_getitem, defBody s_Surroundings_getitem, defScope s_Surroundings_getitem, [], []⟩
def d_Surroundings_setitem : He.DefD := ⟨("Surroundings", some "__setitem__"), "__setitem__", "Surroundings.__setitem__", defArgs s_Surroundings_setitem, defBody s_Surroundings_setitem, defScope s_Surroundings_setitem, [], []⟩
def d_Surroundings_iter : He.DefD := ⟨("Surroundings", some "__iter__"), "__iter__", "Surroundings.__iter__", defArgs s_Surroundings_iter, defBody s_Surroundings_iter, defScope s_Surroundings_iter, [], []⟩
def d_Surroundings_add : He.DefD := ⟨("Surroundings", some "__add__"), "__add__", "Surroundings.__add__", defArgs s_Surroundings_add, defBody s_Surroundings_add, defScope s_Surroundings_add, [], []⟩
def d_Surroundings_radd : He.DefD := ⟨("Surroundings", some "__radd__"), "__radd__", "Surroundings.__radd__", defArgs s_Surroundings_radd, defBody s_Surroundings_radd, defScope s_Surroundings_radd, [], []⟩
def d_Surroundings_iadd : He.DefD := ⟨("Surroundings", some "__iadd__"), "__iadd__", "Surroundings.__iadd__", defArgs s_Surroundings_iadd, defBody s_Surroundings_iadd, defScope s_Surroundings_iadd, [], []⟩
def d_Surroundings_eq : He.DefD := ⟨("Surroundings", some "__eq__"), "__eq__", "Surroundings.__eq__", defArgs s_Surroundings_eq, defBody s_Surroundings_eq, defScope s_Surroundings_eq, [], []⟩
def d_Surroundings_contains : He.DefD := ⟨("Surroundings", some "__contains__"), "__contains__", "Surroundings.__contains__", defArgs s_Surroundings_contains, defBody s_Surroundings_contains, defScope s_Surroundings_contains, [], []⟩
def d_Surroundings_len : He.DefD := ⟨("Surroundings", some "__len__"), "__len__", "Surroundings.__len__", defArgs s_Surroundings_len, defBody s_Surroundings_len, defScope s_Surroundings_len, [], []⟩
def d_changed : He.DefD := ⟨("changed", none), "changed", "changed", defArgs s_changed, defBody s_changed, defScope s_changed, [], []⟩
def d_is_item : He.DefD := ⟨("is_item", none), "is_item", "is_item", defArgs s_is_item, defBody s_is_item, defScope s_is_item, [], []⟩
def d_is_statement : He.DefD := ⟨("is_statement", none), "is_statement", "is_statement", defArgs s_is_statement, defBody s_is_statement, defScope s_is_statement, [], []⟩
def d_bodies_of : He.DefD := ⟨("bodies_of", none), "bodies_of", "bodies_of", defArgs s_bodies_of, defBody s_bodies_of, defScope s_bodies_of, [], []⟩
def d_check_body : He.DefD := ⟨("check_body", none), "check_body", "check_body", defArgs s_check_body, defBody s_check_body, defScope s_check_body, [], []⟩
def d_as_tuples : He.DefD := ⟨("as_tuples", none), "as_tuples", "as_tuples", defArgs s_as_tuples, defBody s_as_tuples, defScope s_as_tuples, [], []⟩
def d_all_statements : He.DefD := ⟨("all_statements", none), "all_statements", "all_statements", defArgs s_all_statements, defBody s_all_statements, defScope s_all_statements, [], []⟩
def d_depth_of : He.DefD := ⟨("depth_of", none), "depth_of", "depth_of", defArgs s_depth_of, defBody s_depth_of, defScope s_depth_of, [], []⟩
def d_check_size : He.DefD := ⟨("check_size", none), "check_size", "check_size", defArgs s_check_size, defBody s_check_size, defScope s_check_size, [], []⟩
def d_names_in : He.DefD := ⟨("names_in", none), "names_in", "names_in", defArgs s_names_in, defBody s_names_in, defScope s_names_in, [], []⟩
def d_Program_init : He.DefD := ⟨("Program", some "__init__"), "__init__", "Program.__init__", defArgs s_Program_init, defBody s_Program_init, defScope s_Program_init, [], []⟩
def d_Program_eq : He.DefD := ⟨("Program", some "__eq__"), "__eq__", "Program.__eq__", defArgs s_Program_eq, defBody s_Program_eq, defScope s_Program_eq, [], []⟩
def d_Program_reads : He.DefD := ⟨("Program", some "reads"), "reads", "Program.reads", defArgs s_Program_reads, defBody s_Program_reads, defScope s_Program_reads, [], []⟩
def d_Program_keys_of : He.DefD := ⟨("Program", some "keys_of"), "keys_of", "Program.keys_of", defArgs s_Program_keys_of, defBody s_Program_keys_of, defScope s_Program_keys_of, [], []⟩
def d_Program_variables : He.DefD := ⟨("Program", some "variables"), "variables", "Program.variables", defArgs s_Program_variables, defBody s_Program_variables, defScope s_Program_variables, [], []⟩
def d_Outcome_init : He.DefD := ⟨("Outcome", some "__init__"), "__init__", "Outcome.__init__", defArgs s_Outcome_init, defBody s_Outcome_init, defScope s_Outcome_init, [], []⟩
def d_check_keys : He.DefD := ⟨("check_keys", none), "check_keys", "check_keys", defArgs s_check_keys, defBody s_check_keys, defScope s_check_keys, [], []⟩
def d_check_schedule : He.DefD := ⟨("check_schedule", none), "check_schedule", "check_schedule", defArgs s_check_schedule, defBody s_check_schedule, defScope s_check_schedule, [], []⟩
def d_Runner_init : He.DefD := ⟨("Runner", some "__init__"), "__init__", "Runner.__init__", defArgs s_Runner_init, defBody s_Runner_init, defScope s_Runner_init, [], []⟩
def d_Runner_wait : He.DefD := ⟨("Runner", some "wait"), "wait", "Runner.wait", defArgs s_Runner_wait, defBody s_Runner_wait, defScope s_Runner_wait, [], []⟩
def d_Runner_value_of : He.DefD := ⟨("Runner", some "value_of"), "value_of", "Runner.value_of", defArgs s_Runner_value_of, defBody s_Runner_value_of, defScope s_Runner_value_of, [], []⟩
def d_Runner_branch : He.DefD := ⟨("Runner", some "branch"), "branch", "Runner.branch", defArgs s_Runner_branch, defBody s_Runner_branch, defScope s_Runner_branch, [], []⟩
def d_Runner_statement : He.DefD := ⟨("Runner", some "statement"), "statement", "Runner.statement", defArgs s_Runner_statement, defBody s_Runner_statement, defScope s_Runner_statement, [], []⟩
def d_Runner_execute : He.DefD := ⟨("Runner", some "execute"), "execute", "Runner.execute", defArgs s_Runner_execute, defBody s_Runner_execute, defScope s_Runner_execute, [], []⟩
def d_run : He.DefD := ⟨("run", none), "run", "run", defArgs s_run, defBody s_run, defScope s_run, [.adr (He.dflAt ("run", none) 0), .adr (He.dflAt ("run", none) 1)], []⟩
def d_frozen : He.DefD := ⟨("frozen", none), "frozen", "frozen", defArgs s_frozen, defBody s_frozen, defScope s_frozen, [], []⟩
def d_free_names : He.DefD := ⟨("free_names", none), "free_names", "free_names", defArgs s_free_names, defBody s_free_names, defScope s_free_names, [], []⟩
def d_replaced : He.DefD := ⟨("replaced", none), "replaced", "replaced", defArgs s_replaced, defBody s_replaced, defScope s_replaced, [], []⟩
def d_with_reads : He.DefD := ⟨("with_reads", none), "with_reads", "with_reads", defArgs s_with_reads, defBody s_with_reads, defScope s_with_reads, [], []⟩
def d_pinned : He.DefD := ⟨("pinned", none), "pinned", "pinned", defArgs s_pinned, defBody s_pinned, defScope s_pinned, [], []⟩
def d_law_begin : He.DefD := ⟨("_law_begin", none), "_law_begin", "_law_begin", defArgs s_law_begin, defBody s_law_begin, defScope s_law_begin, [], []⟩
def d_law_draw : He.DefD := ⟨("_law_draw", none), "_law_draw", "_law_draw", defArgs s_law_draw, defBody s_law_draw, defScope s_law_draw, [], []⟩
def d_law_values : He.DefD := ⟨("_law_values", none), "_law_values", "_law_values", defArgs s_law_values, defBody s_law_values, defScope s_law_values, [], []⟩
def d_law_changes : He.DefD := ⟨("_law_changes", none), "_law_changes", "_law_changes", defArgs s_law_changes, defBody s_law_changes, defScope s_law_changes, [], []⟩
def d_law_variable : He.DefD := ⟨("_law_variable", none), "_law_variable", "_law_variable", defArgs s_law_variable, defBody s_law_variable, defScope s_law_variable, [], []⟩
def d_law_plain : He.DefD := ⟨("_law_plain", none), "_law_plain", "_law_plain", defArgs s_law_plain, defBody s_law_plain, defScope s_law_plain, [], []⟩
def d_law_body : He.DefD := ⟨("_law_body", none), "_law_body", "_law_body", defArgs s_law_body, defBody s_law_body, defScope s_law_body, [], []⟩
def d_law_size : He.DefD := ⟨("_law_size", none), "_law_size", "_law_size", defArgs s_law_size, defBody s_law_size, defScope s_law_size, [], []⟩
def d_law_prints : He.DefD := ⟨("_law_prints", none), "_law_prints", "_law_prints", defArgs s_law_prints, defBody s_law_prints, defScope s_law_prints, [], []⟩
def d_law_short : He.DefD := ⟨("_law_short", none), "_law_short", "_law_short", defArgs s_law_short, defBody s_law_short, defScope s_law_short, [], []⟩
def d_law_case : He.DefD := ⟨("_law_case", none), "_law_case", "_law_case", defArgs s_law_case, defBody s_law_case, defScope s_law_case, [], []⟩
def d_law_do : He.DefD := ⟨("_law_do", none), "_law_do", "_law_do", defArgs s_law_do, defBody s_law_do, defScope s_law_do, [], []⟩
def d_law_go : He.DefD := ⟨("_law_go", none), "_law_go", "_law_go", defArgs s_law_go, defBody s_law_go, defScope s_law_go, [], []⟩
def d_law_run : He.DefD := ⟨("_law_run", none), "_law_run", "_law_run", defArgs s_law_run, defBody s_law_run, defScope s_law_run, [], []⟩
def d_law_frozen : He.DefD := ⟨("_law_frozen", none), "_law_frozen", "_law_frozen", defArgs s_law_frozen, defBody s_law_frozen, defScope s_law_frozen, [], []⟩
def d_law_of_moment : He.DefD := ⟨("_law_of_moment", none), "_law_of_moment", "_law_of_moment", defArgs s_law_of_moment, defBody s_law_of_moment, defScope s_law_of_moment, [], []⟩
def d_law_schedule : He.DefD := ⟨("_law_schedule", none), "_law_schedule", "_law_schedule", defArgs s_law_schedule, defBody s_law_schedule, defScope s_law_schedule, [], []⟩
def d_law_made : He.DefD := ⟨("_law_made", none), "_law_made", "_law_made", defArgs s_law_made, defBody s_law_made, defScope s_law_made, [], []⟩
def d_law_free : He.DefD := ⟨("_law_free", none), "_law_free", "_law_free", defArgs s_law_free, defBody s_law_free, defScope s_law_free, [], []⟩
def d_law_put : He.DefD := ⟨("_law_put", none), "_law_put", "_law_put", defArgs s_law_put, defBody s_law_put, defScope s_law_put, [], []⟩
def d_law_pinned : He.DefD := ⟨("_law_pinned", none), "_law_pinned", "_law_pinned", defArgs s_law_pinned, defBody s_law_pinned, defScope s_law_pinned, [], []⟩
def d_law_like : He.DefD := ⟨("_law_like", none), "_law_like", "_law_like", defArgs s_law_like, defBody s_law_like, defScope s_law_like, [], []⟩
def d_law : He.DefD := ⟨("law", none), "law", "law", defArgs s_law, defBody s_law, defScope s_law, [], []⟩
def fnL : List He.DefD := [d_NoKey_init, d_BadSchedule_init, d_is_word, d_is_value, d_checked, d_Change_init, d_Change_settings, d_Change_add, d_Surroundings_init, d_Surroundings_keys_of, d_Surroundings_state, d_Surroundings_getitem, d_Surroundings_add, d_Surroundings_iadd, d_Surroundings_eq, d_Surroundings_contains, d_changed, d_is_item, d_is_statement, d_bodies_of, d_check_body, d_as_tuples, d_all_statements, d_depth_of, d_check_size, d_names_in, d_Program_init, d_Program_eq, d_Program_reads, d_Program_keys_of, d_Program_variables, d_Outcome_init, d_check_keys, d_check_schedule, d_Runner_init, d_Runner_wait, d_Runner_value_of, d_Runner_branch, d_Runner_statement, d_Runner_execute, d_run, d_frozen, d_free_names, d_replaced, d_with_reads, d_pinned, d_law_begin, d_law_draw, d_law_values, d_law_changes, d_law_variable, d_law_plain, d_law_body, d_law_size, d_law_prints, d_law_short, d_law_case, d_law_do, d_law_go, d_law_run, d_law_schedule, d_law_made, d_law_free, d_law_put, d_law_pinned, d_law_like, d_law]
def fa0 : List He.Fa := [.glo "is_word", .glo "is_value", .glo "checked", .glo "changed", .glo "is_item", .glo "is_statement", .glo "bodies_of", .glo "check_body", .glo "as_tuples", .glo "all_statements", .glo "depth_of", .glo "check_size", .glo "names_in", .glo "check_keys", .glo "check_schedule", .glo "run", .glo "frozen", .glo "free_names", .glo "replaced", .glo "with_reads", .glo "pinned", .glo "_law_begin", .glo "_law_draw", .glo "_law_values", .glo "_law_changes", .glo "_law_variable", .glo "_law_plain", .glo "_law_body", .glo "_law_size", .glo "_law_prints"]
def fa1 : List He.Fa := [.glo "_law_short", .glo "_law_case", .glo "_law_do", .glo "_law_go", .glo "_law_run", .glo "_law_schedule", .glo "_law_made", .glo "_law_free", .glo "_law_put", .glo "_law_pinned", .glo "_law_like", .glo "law", .glo "NoKey", .glo "BadSchedule", .glo "Change", .glo "Surroundings", .glo "Program", .glo "Outcome", .glo "Runner", .free "all", .free "bool", .free "dict", .free "enumerate", .free "int", .free "isinstance", .free "len", .free "list", .free "max", .free "range", .free "sorted"]
def fa2 : List He.Fa := [.free "str", .free "sum", .free "tuple", .free "zip", .str "LETTERS" "abcdefghijklmnopqrstuvwxyz", .int "LONGEST" 6, .int "GREATEST" 99, .int "MOST_surroundings" 4, .int "MOST_programs" 60, .int "DEEPEST" 4, .glo "FORMS", .cls "Change", .mkr "Change", .meth "Change" "settings", .noat "Change" "given", .cls "Surroundings", .mkr "Surroundings", .meth "Surroundings" "keys_of", .meth "Surroundings" "state", .noat "Surroundings" "now", .cls "Program", .mkr "Program", .meth "Program" "reads", .meth "Program" "keys_of", .meth "Program" "variables", .noat "Program" "body", .cls "Outcome", .mkr "Outcome", .noat "Outcome" "ended", .noat "Outcome" "looked"]
def fa3 : List He.Fa := [.noat "Outcome" "printed", .noat "Outcome" "waits", .noat "Outcome" "went", .cls "Runner", .mkr "Runner", .meth "Runner" "wait", .meth "Runner" "value_of", .meth "Runner" "branch", .meth "Runner" "statement", .meth "Runner" "execute", .noat "Runner" "choices", .noat "Runner" "held", .noat "Runner" "outcome", .noat "Runner" "place", .noat "Runner" "plan", .noat "Runner" "stopped", .meth "NoKey" "__init__", .noat "NoKey" "key", .meth "BadSchedule" "__init__", .noat "BadSchedule" "item"]
def faL : List He.Fa := fa0 ++ fa1 ++ fa2 ++ fa3
def tsL : List He.Tab := [(fun K => He.ga K "FORMS", ["read", "set", "copy", "print", "say", "wait", "if", "same", "repeat", "stop"])]
def tab_FORMS : List (Str × He.Dv) := [("read", .str "kk"), ("set", .str "kv"), ("copy", .str "kk"), ("print", .str "k"), ("say", .str "v"), ("wait", .str ""), ("if", .str "kvbb"), ("same", .str "kkbb"), ("repeat", .str "tb"), ("stop", .str "")]
def exL : List (PySem.W.Frag → Bool) := [fun K => He.valsB K (He.ga K "FORMS") tab_FORMS, fun K => insB K "Change", fun K => kitC K "Change" "Change" true, fun K => insB K "Surroundings", fun K => kitC K "Surroundings" "Surroundings" true, fun K => insB K "Program", fun K => kitC K "Program" "Program" true, fun K => spcB K "Change" "__add__", fun K => spcB K "Surroundings" "__getitem__", fun K => spcB K "Surroundings" "__add__", fun K => spcB K "Surroundings" "__iadd__", fun K => spcB K "Surroundings" "__eq__", fun K => spcB K "Surroundings" "__contains__", fun K => spcB K "Program" "__eq__", fun K => oexB K (He.ga K "NoKey"), fun K => oexB K (He.ga K "BadSchedule"), fun K => empB K (He.dflAt ("run", none) 0 K), fun K => empB K (He.dflAt ("run", none) 1 K), fun K => twoB K "Surroundings" "Change"]
def exB (K : PySem.W.Frag) : Bool := exL.all fun f => f K
def nm0 : List PySem.Str := ["MomentError", "BadValues", "TooLong", "TooDeep", "BadValue", "NoKey", "BadStatement", "BadSchedule", "LETTERS", "LONGEST", "GREATEST", "MOST_surroundings", "is_word", "is_value", "checked", "Change", "Surroundings", "changed", "MOST_programs", "DEEPEST", "FORMS", "is_item", "is_statement", "bodies_of", "check_body", "as_tuples", "all_statements", "depth_of", "check_size", "names_in"]
def nm1 : List PySem.Str := ["Program", "Outcome", "check_keys", "check_schedule", "Runner", "run", "frozen", "free_names", "replaced", "with_reads", "pinned", "_law_begin", "_law_draw", "_law_values", "_law_changes", "_law_variable", "_law_plain", "_law_body", "_law_size", "_law_prints", "_law_short", "_law_case", "_law_do", "_law_go", "_law_run", "_law_frozen", "_law_of_moment", "_law_schedule", "_law_made", "_law_free"]
def nm2 : List PySem.Str := ["_law_put", "_law_pinned", "_law_like"]
def names : List PySem.Str := nm0 ++ nm1 ++ nm2
abbrev R : PySem.W.OpenRow := PySem.W.OpenLaw.row PySem.Challenge.rw_readmoments_k14_pinned_programs
abbrev hk : PySem.W.Hook := He.hookX 5 faL fnL tsL [] exB
def ob (s : PySem.W.SharedT) : He.AlX := He.obsX 5 faL fnL tsL [] exB (HandSHeadRun.getT s)
theorem ob_eq (s : PySem.W.SharedT) : ob s = hk.obs s.abs := He.obsX_eq (HandSHeadRun.getT_eq s)
theorem run0 (w : World) : HandSHeadRun.RunEq R (PySem.W.view R.prog [69]) hk ob 9000 names (w.withFollow "special-get-raises" false) := by
  intro os
  kernel_rfl
theorem run1 (w : World) : HandSHeadRun.RunEq R (PySem.W.view R.prog [69]) hk ob 9000 names (w.withFollow "special-get-raises" true) := by
  intro os
  kernel_rfl
theorem run (w : World) : HandSHeadRun.RunEq R (PySem.W.view R.prog [69]) hk ob 9000 names w := PySem.W.byRow2 "special-get-raises" (P := fun w => HandSHeadRun.RunEq R (PySem.W.view R.prog [69]) hk ob 9000 names w) run0 run1 w
end RM

set_option Elab.async false
set_option linter.all false
set_option maxRecDepth 100000
set_option maxHeartbeats 2000000
namespace RM
open PySem PySem.Spec PyProof.Rows L2

/-! ### calls by promise -/
section
variable (P : Program) (w : World) (K : PySem.W.Frag) (mg : Str → Option Value) (base : Heap) (CX : CXT)
/-- a def by its global name -/
def Cal (k : Nat) (x : Str) (sp : Sp) : Prop :=
  ∃ (f : Addr) (fd : FuncData) (ps : List Str), FnOk P w K mg base CX k f fd ps sp ∧ mg x = some (.ref f) ∧ PySem.W.keepIn K (.ref f) = true ∧ Binds K fd ps []
/-- the class at C: its method m -/
def Met (k : Nat) (C : Addr) (m : Str) (sp : Sp) : Prop :=
  ∃ (f : Addr) (fd : FuncData) (ps : List Str), Cls K C ∧ Meth K C m f ∧ FnOk P w K mg base CX k f fd ps sp ∧ Binds K fd ps []
/-- a class that is made by its name; sp: its __init__ -/
def Mak (k : Nat) (x : Str) (C : Addr) (sp : Sp) : Prop :=
  ∃ (f : Addr) (fd : FuncData) (ps : List Str), Mk K C f ∧ FnOk P w K mg base CX k f fd ps sp ∧ mg x = some (.ref C) ∧ Binds K fd ps []
end
section
variable {P : Program} {w : World} {K : PySem.W.Frag} {mg : Str → Option Value} {base : Heap} {CX : CXT} {k : Nat} {x m : Str} {C : Addr} {sp : Sp}
theorem Cal.mono {j : Nat} (c : Cal P w K mg base CX j x sp) (h : j ≤ k) : Cal P w K mg base CX k x sp := let ⟨f, fd, ps, F, a, b, d⟩ := c; ⟨f, fd, ps, F.mono h, a, b, d⟩
theorem Met.mono {j : Nat} (c : Met P w K mg base CX j C m sp) (h : j ≤ k) : Met P w K mg base CX k C m sp := let ⟨f, fd, ps, a, b, F, d⟩ := c; ⟨f, fd, ps, a, b, F.mono h, d⟩
theorem Mak.mono {j : Nat} (c : Mak P w K mg base CX j x C sp) (h : j ≤ k) : Mak P w K mg base CX k x C sp := let ⟨f, fd, ps, a, F, b, d⟩ := c; ⟨f, fd, ps, a, F.mono h, b, d⟩
theorem Cal.imp {sp' : Sp} (c : Cal P w K mg base CX k x sp) (h : ∀ vs H Q E, sp' vs H Q E → sp vs H Q E) : Cal P w K mg base CX k x sp' := let ⟨f, fd, ps, F, a, b, d⟩ := c; ⟨f, fd, ps, F.imp h, a, b, d⟩
theorem Met.imp {sp' : Sp} (c : Met P w K mg base CX k C m sp) (h : ∀ vs H Q E, sp' vs H Q E → sp vs H Q E) : Met P w K mg base CX k C m sp' := let ⟨f, fd, ps, a, b, F, d⟩ := c; ⟨f, fd, ps, a, b, F.imp h, d⟩
/-- nothing leaves by an error: the body's form -/
def Body0 (P : Program) (w : World) (K : PySem.W.Frag) (mg : Str → Option Value) (base : Heap) (N : List Str) (qual : Str) (st : Stmt) (f : Addr) (k : Nat) (sp : Sp) : Prop :=
  ∀ (cdv : Value) (A : Around) (outer : List Env) (s : Shared) (H : Hp) (vs : List V) (Q : VK) (E : XK), Room k (A.deeper (envOfC qual (defScope st) s.heap.objs.size f cdv)) → sp vs H Q E →
    ∃ t, PSs (cxOf CX0 P w K mg base N qual (defScope st) f cdv A outer s H E).nox (defBody st) t ∧ t { nx := fun _ H' => Q .non H', rt := Q } (start N vs) H
theorem fn_0 {qual : Str} {st : Stmt} {f : Addr} {fd : FuncData} {N ps : List Str} (F : FunD K x qual (defArgs st) (defBody st) (defScope st) [] [] f fd) (S : FnScope N ps (defScope st))
    (len : ∀ vs H Q E, sp vs H Q E → vs.length = ps.length) (h : Body0 P w K mg base N qual st f k sp) : FnOk P w K mg base CX0 (k + 1) f fd ps sp :=
  F.ok S len fun cdv A outer s H vs Q E hr hsp => let ⟨t, a, b⟩ := h cdv A outer s H vs Q E hr hsp; ⟨t, a.nox, b⟩
theorem cal_0 {st : Stmt} {f : Addr} {N ps : List Str} (F : ∃ fd, FunD K x x (defArgs st) (defBody st) (defScope st) [] [] f fd) (hm : mg x = some (.ref f)) (S : FnScope N ps (defScope st))
    (hb : ∀ (kV doc pm : Value) (an : Option Addr) (cdv ct : Value) (us : List Value), us.length = ps.length → bindArgs (PySem.W.fnOf x x (defArgs st) (defBody st) (defScope st) .none kV doc pm an cdv ct) ⟨us, []⟩ = pure (ps.zip us))
    (len : ∀ vs H Q E, sp vs H Q E → vs.length = ps.length) (h : Body0 P w K mg base N x st f k sp) : Cal P w K mg base CX0 (k + 1) x sp :=
  let ⟨fd, F⟩ := F
  ⟨f, fd, ps, fn_0 F S len h, hm, F.kp, F.bindsN hb⟩
theorem cal_never {x : Str} {st : Stmt} {f : Addr} {ps : List Str} {sp : Sp} {k : Nat} (F : ∃ fd, FunD K x x (defArgs st) (defBody st) (defScope st) [] [] f fd) (hm : mg x = some (.ref f))
    (hb : ∀ (kV doc pm : Value) (an : Option Addr) (cdv ct : Value) (us : List Value), us.length = ps.length → bindArgs (PySem.W.fnOf x x (defArgs st) (defBody st) (defScope st) .none kV doc pm an cdv ct) ⟨us, []⟩ = pure (ps.zip us))
    (no : ∀ vs H Q E, ¬ sp vs H Q E) : Cal P w K mg base CX0 k x sp :=
  let ⟨fd, F⟩ := F
  ⟨f, fd, ps, ⟨fun vs H Q E h => absurd h (no vs H Q E), fun A outer s H args us vs Q E _ _ _ _ h => absurd h (no vs H Q E)⟩, hm, F.kp, F.bindsN hb⟩
theorem met_0 {qual : Str} {st : Stmt} {f : Addr} {N ps : List Str} (F : ∃ fd, FunD K m qual (defArgs st) (defBody st) (defScope st) [] [] f fd) (c : Cls K C) (me : Meth K C m f) (S : FnScope N ps (defScope st))
    (hb : ∀ (kV doc pm : Value) (an : Option Addr) (cdv ct : Value) (us : List Value), us.length = ps.length → bindArgs (PySem.W.fnOf m qual (defArgs st) (defBody st) (defScope st) .none kV doc pm an cdv ct) ⟨us, []⟩ = pure (ps.zip us))
    (len : ∀ vs H Q E, sp vs H Q E → vs.length = ps.length) (h : Body0 P w K mg base N qual st f k sp) : Met P w K mg base CX0 (k + 1) C m sp :=
  let ⟨fd, F⟩ := F
  ⟨f, fd, ps, c, me, fn_0 F S len h, F.bindsN hb⟩
theorem mak_0 {qual : Str} {st : Stmt} {f : Addr} {N ps : List Str} (F : ∃ fd, FunD K "__init__" qual (defArgs st) (defBody st) (defScope st) [] [] f fd) (M : Mk K C f) (hm : mg x = some (.ref C)) (S : FnScope N ps (defScope st))
    (hb : ∀ (kV doc pm : Value) (an : Option Addr) (cdv ct : Value) (us : List Value), us.length = ps.length → bindArgs (PySem.W.fnOf "__init__" qual (defArgs st) (defBody st) (defScope st) .none kV doc pm an cdv ct) ⟨us, []⟩ = pure (ps.zip us))
    (len : ∀ vs H Q E, sp vs H Q E → vs.length = ps.length) (h : Body0 P w K mg base N qual st f k sp) : Mak P w K mg base CX0 (k + 1) x C sp :=
  let ⟨fd, F⟩ := F
  ⟨f, fd, ps, M, fn_0 F S len h, hm, F.bindsN hb⟩
end
section
variable {X : Cx} {CX : CXT} {k j : Nat} {C : Addr} {x m : Str} {sp : Sp} {E : XK} {p pos apos : Pos} {e o : Expr} {es : List Expr} {ta : TE} {t : TA}
theorem pc (c : Cal X.prog X.w X.K X.mg X.base CX0 k x sp) (hr : Room j X.A) (ha : PA X (e :: es) t) (hk : k ≤ j := by omega) (hg : Gl X x := by rfl)
    (hpl : (backTo pos (starEach es X.env)).any (·.1) = false := by rfl) (he : starEach (e :: es) X.env = (false, eval e X.env) :: starEach es X.env := by rfl) (hdb : (x == ("__debug__" : Str)) = false := by decide) :
    PE X (.Call (.Name x p) (e :: es) [] pos) (tCall sp [] E0 t) := by
  obtain ⟨f, fd, ps, F, hm, kp, b⟩ := c
  exact pe_call F (hr.mono hk) hg hm kp b .nil pass0 ha hdb he hpl
theorem pc0 (c : Cal X.prog X.w X.K X.mg X.base CX0 k x sp) (hr : Room j X.A) (hk : k ≤ j := by omega) (hg : Gl X x := by rfl)
    (hdb : (x == ("__debug__" : Str)) = false := by decide) :
    PE X (.Call (.Name x p) [] [] pos) (tCall sp [] E0 tNil) := by
  obtain ⟨f, fd, ps, F, hm, kp, b⟩ := c
  exact pe_call0 F (hr.mono hk) hg hm kp b .nil pass0 hdb
theorem pmk (c : Mak X.prog X.w X.K X.mg X.base CX0 k x C sp) (hr : Room j X.A) (ha : PA X (e :: es) t) (hk : k + 1 ≤ j := by omega) (hg : Gl X x := by rfl)
    (hpl : (backTo pos (starEach es X.env)).any (·.1) = false := by rfl) (he : starEach (e :: es) X.env = (false, eval e X.env) :: starEach es X.env := by rfl) (hdb : (x == ("__debug__" : Str)) = false := by decide) :
    PE X (.Call (.Name x p) (e :: es) [] pos) (tMake C sp [] E0 t) := by
  obtain ⟨f, fd, ps, M, F, hm, b⟩ := c
  exact pe_make M F (hr.mono hk) hg hm b .nil pass0 ha hdb he hpl
theorem pmt {pl : Sem Bool} (c : Met X.prog X.w X.K X.mg X.base CX0 k C m sp) (hr : Room j X.A) (he : PE X o ta) (ha : PA X (e :: es) t) (hk : k ≤ j := by omega)
    (hst : starEach (e :: es) X.env = (false, eval e X.env) :: starEach es X.env := by rfl) (hpl : (backTo pos (starEach es X.env)).any (·.1) = false := by rfl)
    (ht : eval (.Call (.Attribute o m apos) (e :: es) [] pos) X.env = (do
      let ov ← eval o X.env
      standAt apos.atName
      let (f, first) ← holding [ov] (getMethod ov m pl)
      callWith pos f first (backTo pos (starEach (e :: es) X.env)) (backToKw pos (keywordEach [] X.env))) := by rfl) :
    PE X (.Call (.Attribute o m apos) (e :: es) [] pos) (tMeth C m sp [] E0 ta t) := by
  obtain ⟨f, fd, ps, hc, hm, F, b⟩ := c
  exact pe_meth (pl := pl) he hc hm F (hr.mono hk) b .nil pass0 ha hst hpl ht
theorem pmt0 {pl : Sem Bool} (c : Met X.prog X.w X.K X.mg X.base CX0 k C m sp) (hr : Room j X.A) (he : PE X o ta) (hk : k ≤ j := by omega)
    (ht : eval (.Call (.Attribute o m apos) [] [] pos) X.env = (do
      let ov ← eval o X.env
      standAt apos.atName
      let (f, first) ← holding [ov] (getMethod ov m pl)
      callWith pos f first (backTo pos (starEach [] X.env)) (backToKw pos (keywordEach [] X.env))) := by rfl) :
    PE X (.Call (.Attribute o m apos) [] [] pos) (tMeth C m sp [] E0 ta tNil) := by
  obtain ⟨f, fd, ps, hc, hm, F, b⟩ := c
  exact pe_meth0 (pl := pl) he hc hm F (hr.mono hk) b .nil pass0 ht
/-- a module's constant, told by what mg says -/
theorem pgl {v : V} {u : Value} (hm : X.mg x = some u) (r : RelV v u) (hg : Gl X x := by rfl) (hd : (x == ("__debug__" : Str)) = false := by decide) : PE X (.Name x p) (tC v) := pe_glob hg hm r hd
theorem pglR {a : Addr} (hm : X.mg x = some (.ref a)) (hg : Gl X x := by rfl) (hd : (x == ("__debug__" : Str)) = false := by decide) : PE X (.Name x p) (tC (.ref a)) := pe_glob hg hm rfl hd
theorem pglI {i : Int} (hm : ∃ t, X.mg x = some (.int i t)) (hg : Gl X x := by rfl) (hd : (x == ("__debug__" : Str)) = false := by decide) : PE X (.Name x p) (tC (.int i)) := let ⟨t, h⟩ := hm; pe_glob hg h ⟨t, rfl⟩ hd
theorem pglS {z : Str} (hm : ∃ t, X.mg x = some (.str z t)) (hg : Gl X x := by rfl) (hd : (x == ("__debug__" : Str)) = false := by decide) : PE X (.Name x p) (tC (.str z)) := let ⟨t, h⟩ := hm; pe_glob hg h ⟨t, rfl⟩ hd
/-- a built-in class as a value -/
theorem pty {n : String} (hm : X.mg x = none) (hv : bootBuiltins x = some (.type n)) (hg : Gl X x := by rfl) (hn : x ≠ "__name__" := by decide) (hd : (x == ("__debug__" : Str)) = false := by decide) : PE X (.Name x p) (tC (.ty n)) := pe_bltn hg hm hv rfl hn hd
/-- a built-in function, a built-in class, called -/
theorem pcb {id : String} {r : List V → Hp → VK → Prop} (hm : X.mg x = none) (hc : CallR X (.builtin id) r) (hv : bootBuiltins x = some (.builtin id)) (ha : PA X (e :: es) t) (hg : Gl X x := by rfl) (hn : x ≠ "__name__" := by decide) (hdb : (x == ("__debug__" : Str)) = false := by decide)
    (he : starEach (e :: es) X.env = (false, eval e X.env) :: starEach es X.env := by rfl) (hpl : (backTo pos (starEach es X.env)).any (·.1) = false := by rfl) : PE X (.Call (.Name x p) (e :: es) [] pos) (tCB r t) := pe_callB hc hg hm hv ha hn hdb he hpl
theorem pct {T : String} {r : List V → Hp → VK → Prop} (hm : X.mg x = none) (hc : CallR X (.type T) r) (hv : bootBuiltins x = some (.type T)) (ha : PA X (e :: es) t) (hg : Gl X x := by rfl) (hn : x ≠ "__name__" := by decide) (hdb : (x == ("__debug__" : Str)) = false := by decide)
    (he : starEach (e :: es) X.env = (false, eval e X.env) :: starEach es X.env := by rfl) (hpl : (backTo pos (starEach es X.env)).any (·.1) = false := by rfl) : PE X (.Call (.Name x p) (e :: es) [] pos) (tCB r t) := pe_callTy hc hg hm hv ha hn hdb he hpl
end
/-! ### the rules whose readings name the written part: K told apart (for a comprehension's block) -/
section
variable {X : Cx} {K : PySem.W.Frag} {e o : Expr} {es : List Expr} {ta : TE} {t : TA} {pos : Pos}
theorem pg_tup' {k : Nat} {t : TGs} {n : Nat} (hK : X.K = K) (hc : X.calm = true) (h : PGs X es t)
    (hn : (assignEach es X.env).length = n) (hst : (assignEach es X.env).findIdx? (·.1) = none) : PG X (.Tuple es k pos) (gTup K n t) := by
  subst hK
  exact pg_tup hc h hn hst
theorem ix_tup' (hK : X.K = K) : IxR X (rIxT K) := by subst hK; exact ix_tup
theorem ix_list' (hK : X.K = K) : IxR X (rIxL K) := by subst hK; exact ix_list
theorem call_isi' (hK : X.K = K) : CallR X (.builtin "isinstance") (rIsi K) := by subst hK; exact call_isi
theorem call_isiT' (hK : X.K = K) : CallR X (.builtin "isinstance") (rIsiT K) := by subst hK; exact call_isiT
theorem call_len_seq' (hK : X.K = K) : CallR X (.builtin "len") (fun xs H Q => ∃ p ys, xs = [.ref p] ∧ (SqL K H p ys ∨ SqT K H p ys) ∧ Q (.int ys.length) H) := by subst hK; exact call_len_seq
theorem ix_kdict' {w : World} (hK : X.K = K) (hw : X.w = w) : IxR X (rIxD K w) := by subst hK hw; exact ix_kdict
theorem pe_fld' {f : Str} (hK : X.K = K) (he : PE X e ta) (hb : attributeBase e f X.env (eval e X.env) = eval e X.env) : PE X (.Attribute e f pos) (tFld K ta f) := by subst hK; exact pe_fld he hb
end
/-! ### places -/
theorem at0 {v : V} {xs : List V} : atI (v :: xs) 0 = some v := atI_nat (j := 0) rfl
theorem at1 {a v : V} {xs : List V} : atI (a :: v :: xs) 1 = some v := atI_nat (j := 1) rfl
theorem at2 {a b v : V} {xs : List V} : atI (a :: b :: v :: xs) 2 = some v := atI_nat (j := 2) rfl
theorem at3 {a b c v : V} {xs : List V} : atI (a :: b :: c :: v :: xs) 3 = some v := atI_nat (j := 3) rfl
theorem at4 {a b c d v : V} {xs : List V} : atI (a :: b :: c :: d :: v :: xs) 4 = some v := atI_nat (j := 4) rfl
theorem yesI {σ : L2.St} {H : Hp} {X Y : Hp → Prop} (h : X H) : tYes σ H (fun b H3 => if b = true then X H3 else Y H3) := by
  show if true = true then X H else Y H
  rw [if_pos rfl]
  exact h
/-! ### ifs -/
theorem ifT {c : Bool} {A B : Prop} (hc : c = true) (h : A) : if c = true then A else B := by
  rw [if_pos hc]
  exact h
theorem ifF {c : Bool} {A B : Prop} (hc : c = false) (h : B) : if c = true then A else B := by
  rw [hc, if_neg Bool.false_ne_true]
  exact h
theorem qT {Q : VK} {c : Bool} {H : Hp} (h : c = true) (q : Q (.bl true) H) : Q (.bl c) H := by rw [h]; exact q
theorem qF {Q : VK} {c : Bool} {H : Hp} (h : c = false) (q : Q (.bl false) H) : Q (.bl c) H := by rw [h]; exact q
theorem ifB {c : Bool} {A B : Prop} (h1 : c = true → A) (h2 : c = false → B) : if c = true then A else B := by
  cases c with
  | true => exact ifT rfl (h1 rfl)
  | false => exact ifF rfl (h2 rfl)
/-! ### what a head tells beside the listed facts -/
theorem insB_ty {K : PySem.W.Frag} {H : Hp} {x : Str} (h : insB K x = true) (cl : Cls K (He.ga K x)) {a dx : Addr} {fs : List (Str × V)} (e : H a = some (.ins (He.ga K x) dx fs)) : TyOf K H (.ref a) (.ref (He.ga K x)) := by
  obtain ⟨h1, h⟩ := He.ba h
  obtain ⟨h2, h⟩ := He.ba h
  obtain ⟨h3, h4⟩ := He.ba h
  exact .ins e cl (He.eqO_ok h1) (He.eqO_ok h2) (of_decide_eq_true h3) (of_decide_eq_true h4)
theorem kitC_ok {K : PySem.W.Frag} {x y : Str} {b : Bool} (h : kitC K x y b = true) : PySem.W.kitOne K (.ref (He.ga K x)) (.ref (He.ga K y)) = some b := of_decide_eq_true h
theorem spcB_ok {K : PySem.W.Frag} {x m : Str} (h : spcB K x m = true) : PySem.W.findIn K (.ref (He.ga K x)) m = some (some (.ref (He.ma K (He.ga K x) m))) ∧ PySem.W.isFn K (.ref (He.ma K (He.ga K x) m)) = true :=
  let ⟨a, b⟩ := He.ba h; ⟨He.eqO_ok a, b⟩
/-! ### isinstance -/
theorem isi_ty {K : PySem.W.Frag} {H : Hp} {Q : VK} {x : V} {t n : String} {b : Bool} (ty : TyX K H x (.type t)) (q : Q (.bl b) H) (e : kitB t n = some b := by decide +kernel) : rIsi K [x, .ty n] H Q :=
  ⟨x, .ty n, .type t, .type n, b, rfl, .ty n, ty, kit_ty e, q⟩
/-! ### a statement told by what holds behind it -/
def tMid (t : TS) : TS := fun D σ H => ∃ M : L2.St → Hp → Prop, t { D with nx := M } σ H ∧ ∀ σ' H', M σ' H' → D.nx σ' H'
theorem ps_mid {X : Cx} {st : Stmt} {t : TS} (h : PS X st t) : PS X st (tMid t) := by
  constructor
  rintro pins s σ H D I ⟨M, a, b⟩
  refine wpAny_mono (h.run pins s σ H _ I a) (fun f s' z => ?_) fun _ _ z => z
  cases f with
  | next =>
    obtain ⟨σ', H', I', m⟩ := z
    exact ⟨σ', H', I', b σ' H' m⟩
  | ret v => exact z
  | brk => exact z
  | cont => exact z
end RM

set_option Elab.async false
set_option linter.all false
/-! sequences of either kind: for x in v -/
namespace RM
open PySem PySem.Spec
open PyProof.Rows
open L2
/-- what is laid behind the last address is no one's -/
theorem late {X : Cx} {pins : List (Addr × Obj)} {σ : L2.St} {H : Hp} {s : Shared} (inv : Inv X pins σ H s) : ∀ b ∈ [s.heap.objs.size], FpOk X pins H b := by
  intro b hb
  obtain rfl := List.mem_singleton.mp hb
  exact inv.fpOk (Nat.le_refl _) (inv.hok.fresh (Nat.le_refl _))
@[irreducible] def SeqG (K : PySem.W.Frag) (x : V) (H1 : Hp) (R : It → Hp → Prop) : Prop :=
  ∃ a, x = .ref a ∧ ((∃ xs, SqL K H1 a xs ∧ R (Itl K a) H1) ∨ (∃ xs, SqT K H1 a xs ∧ R (Itt K a) H1))
def iSeqA (K : PySem.W.Frag) (tl : TE) : TI := fun σ H R => tl σ H fun x H1 => SeqG K x H1 R
theorem pi_seqA {X : Cx} {tg l : Expr} {tl : TE} (hl : PE X l tl) : PI X tg l (iSeqA X.K tl) := by
  constructor
  intro pins s σ H R inv pre
  refine thn (hl.run pins s σ H _ inv pre) ?_
  rintro v s1 ⟨x, H1, inv1, rel, post⟩
  rw [show SeqG X.K x H1 R = (∃ a, x = .ref a ∧ ((∃ xs, SqL X.K H1 a xs ∧ R (Itl X.K a) H1) ∨ (∃ xs, SqT X.K H1 a xs ∧ R (Itt X.K a) H1))) by unfold SeqG; rfl] at post
  obtain ⟨a, rfl, ⟨xs, sq, r⟩ | ⟨xs, sq, r⟩⟩ := post
  · obtain rfl : v = .ref a := rel
    obtain ⟨its, _, at_, _⟩ := inv1.list sq
    exact wpAny_pyIter_list at_.isList ⟨_, _, _, _, _, rfl, inv1.kept (t' := s1.toks) fun _ _ e => Heap.get?_push_of_some _ e, turn_list a _, ⟨_, Heap.get?_push_size _ rfl, rfl, rfl⟩, late inv1, r⟩
  · obtain rfl : v = .ref a := rel
    obtain ⟨its, _, at_, _⟩ := inv1.tuple sq
    exact wpAny_pyIter_tuple (items := its.toArray) at_ ⟨_, _, _, _, _, rfl, inv1.kept (t' := s1.toks) fun _ _ e => Heap.get?_push_of_some _ e, turn_tuple a _, ⟨_, Heap.get?_push_size _ rfl, rfl, rfl⟩, late inv1, r⟩
end RM

set_option Elab.async false
set_option linter.all false
set_option maxRecDepth 100000
/-! enumerate(a tuple): how it is made -/
namespace RM
open PySem PySem.Spec
open PyProof.Rows
open L2
abbrev tupIt (a : Addr) : Obj := { cls := .type "tuple_iterator", data := .fields #[.ref a, .int 0 0] }
abbrev enOb (e : Addr) : Obj := { cls := .type "enumerate", data := .fields #[.none, .bool false, .ref e, rawInt 0, .none, .none] }
theorem made_enum (a : Addr) (its : Array Value) : Meets (Builtin.«enumerate.__new__» ⟨[.type "enumerate", .ref a], []⟩)
    fun _ R s => s.heap.IsTuple a its ∧ R (.ok (.ret (.ref (s.heap.push (tupIt a)).objs.size))) { s with heap := (s.heap.push (tupIt a)).push (enOb s.heap.objs.size) } := by
  refine .of_wp ?_
  rintro prog w A R ⟨hp, g, d, tk, os⟩ ⟨tup, fin⟩
  have sub := sub_enumerate
  have go : ∀ {B : Around} {EE QQ : Value → Shared → Prop}, QQ (.ref hp.objs.size) ⟨hp.push (tupIt a), g, d, tk, os⟩ → wpAny (model prog w) B (pyIter (.ref a)) QQ EE ⟨hp, g, d, tk, os⟩ :=
    wpAny_pyIter_tuple (s := ⟨hp, g, d, tk, os⟩) tup
  wp_walk using go
  refine wpAny_stack_any fun frames => ?_
  apply wpAny_pure
  split
  case h_1 c _ _ _ _ _ =>
    by_cases e : (c == Value.type "enumerate") = true
    all_goals (simp only [e]; wp_walk using go; exact ⟨_, rfl, fin⟩)
  case h_2 => wp_walk using go; exact ⟨_, rfl, fin⟩
section
variable {P : Program} {w : World} {s : Shared} {A : Around} {E : Value → Shared → Prop}
/-- enumerate(t): the enumerate object stands one behind the tuple's iterator -/
theorem call_enumT {a : Addr} {its : Array Value} {Q : Value → Shared → Prop} (tup : s.heap.IsTuple a its)
    (then_ : ∀ hp : Heap, IsEnum hp (s.heap.objs.size + 1) s.heap.objs.size ((0 : Nat) : Int) .none → hp.get? s.heap.objs.size = some (tupIt a) → (∀ c u, s.heap.get? c = some u → hp.get? c = some u) → Q (.ref (s.heap.objs.size + 1)) { s with heap := hp }) :
    wpAny (model P w) A (call (.type "enumerate") [.ref a]) Q E s := by
  have sz : (s.heap.push (tupIt a)).objs.size = s.heap.objs.size + 1 := Heap.size_push _ _
  have at1 : ((s.heap.push (tupIt a)).push (enOb s.heap.objs.size)).get? (s.heap.objs.size + 1) = some (enOb s.heap.objs.size) := sz ▸ Heap.get?_push_size (s.heap.push (tupIt a)) (o := enOb s.heap.objs.size) rfl
  apply callType_new F.called_enumerate (by decide) (F.typeCall_enumerate_1 (.ref a)) (F.newCall_enumerate_1 (.ref a)) (fun o => F.args_object_init_2 o (.ref a)) F.entry_enumerate_new (made_enum a its)
  refine ⟨tup, ?_⟩
  show Shared.TypeIs _ _ _ ∧ Q _ _
  rw [sz]
  exact ⟨⟨_, at1, rfl⟩, then_ _ at1 (Heap.get?_push_of_some _ (Heap.get?_push_size _ rfl)) fun c u old => Heap.get?_push_of_some _ (Heap.get?_push_of_some _ old)⟩
end
theorem turn_pair {P : Program} {w : World} {K : PySem.W.Frag} {elts : List Expr} {kk : Nat} {tpos : Pos} {J : It} {fp : List Addr} {it : Addr} {tn : Nat → Heap → Prop}
    (mem : it ∈ fp) (obj : ∀ i h, tn i h → ∀ b ∈ fp, ∃ o, h.get? b = some o ∧ ∀ v, o.data ≠ .cell v)
    (keep : ∀ i h h', tn i h → (∀ b ∈ fp, ∀ o, h.get? b = some o → h'.get? b = some o) → tn i h')
    (self : ∀ (A : Around) (i : Nat) (s : Shared) (Q : Value → Shared → Prop) (E : Value → Shared → Prop), tn i s.heap → Q (.ref it) s → wpAny (model P w) A (pyIter (.ref it)) Q E s)
    (go : ∀ (X : Cx), X.prog = P → X.w = w → X.K = K → ∀ (i : Nat) (pins : List (Addr × Obj)) (s : Shared) (σ : L2.St) (H : Hp), Inv X pins σ H s → X.A.handled = none → tn i s.heap → J.go i H →
      ∃ (fp' wr : List Addr) (n : Nat) (Y : Nat → Heap → Value → Heap → Prop) (St : Nat → Heap → Prop), GoesN P w X.A (.Tuple elts kk tpos) it fp' wr n Y St ∧ i < n ∧ St i s.heap ∧ (∀ b ∈ wr, b ∈ fp) ∧
        ∀ v h', Y i s.heap v h' → St (i + 1) h' → ∃ T u1 u2 x y, v = .ref T ∧ s.heap.objs.size ≤ T ∧ h'.IsTuple T #[u1, u2] ∧ RelV x u1 ∧ RelV y u2 ∧ tn (i + 1) h' ∧ J.yld i H (.ref T) (upd H T (.tup [x, y])))
    (stop : ∀ (X : Cx), X.prog = P → X.w = w → X.K = K → ∀ (i : Nat) (pins : List (Addr × Obj)) (s : Shared) (σ : L2.St) (H : Hp), Inv X pins σ H s → X.A.handled = none → tn i s.heap → J.stop i H →
      ∃ (fp' wr : List Addr) (Y : Nat → Heap → Value → Heap → Prop) (St : Nat → Heap → Prop), GoesN P w X.A (.Tuple elts kk tpos) it fp' wr i Y St ∧ St i s.heap ∧ (∀ b ∈ wr, b ∈ fp)) :
    Turn P w K (.Tuple elts kk tpos) J fp it tn where
  mem := mem
  obj := obj
  keep := keep
  item := by
    rintro X hP hw hK hc i pins s σ H E I hf st hg
    obtain ⟨fp', wr, n, Y, St, W, hi, hs, hwr, hy⟩ := go X hP hw hK i pins s σ H I (I.ok.hd hc) st hg
    refine wpAny_mono (W.goes i s (fun v s2 => ∃ x H', Inv X pins σ H' s2 ∧ RelV x v ∧ J.yld i H x H' ∧ tn (i + 1) s2.heap ∧ ∀ b ∈ fp, H' b = none) E hi hs fun v h' tk y st' hk htk => ?_) (fun r s1 q => q) fun _ _ q => q
    obtain ⟨T, u1, u2, x, y', rfl, hT, ht, r1, r2, t', yl⟩ := hy v h' y st'
    have hd : s.heap.objs.size ≤ T := hT
    have new : ObjOk X.prog X.w (upd H T (.tup [x, y'])) h' T (.tup [x, y']) := ⟨by show 2 ≤ sizeLine; decide, [u1, u2], .cons r1 (.cons r2 .nil), ht⟩
    have I1 : Inv X pins σ (upd H T (.tup [x, y'])) { s with heap := h', toks := tk } := I.turnedNew (ch := fp) (fun c o hb q => hk c o (fun z => hb (hwr c z)) q) hf hT new
    refine ⟨.ref T, _, I1, rfl, yl, t', fun b hb => ?_⟩
    obtain ⟨o, ho, _⟩ := obj i _ st b hb
    rw [upd_ne (Nat.ne_of_lt (Nat.lt_of_lt_of_le (Heap.lt_size ho) hT))]
    exact (hf b hb).1
  done := by
    rintro X hP hw hK hc i pins s σ H E I hf st hg
    obtain ⟨fp', wr, Y, St, W, hs, hwr⟩ := stop X hP hw hK i pins s σ H I (I.ok.hd hc) st hg
    exact W.stops s (fun s1 => Inv X pins σ H s1) E hs fun h' tk hk htk => I.turnedL (ch := fp) (fun c o hb q => hk c o (fun z => hb (hwr c z)) q) hf
  self := self

/-! ### for i, x in enumerate(a tuple) -/
/-- the tuple at a, its items in new pairs behind their numbers -/
def IteT (K : PySem.W.Frag) (a : Addr) : It :=
  ⟨fun i H => ∃ (xs : List V) (x : V), SqT K H a xs ∧ xs[i]? = some x,
    fun i H v H' => ∃ T x, v = .ref T ∧ H T = none ∧ H' = upd H T (.tup [.int (i : Nat), x]) ∧ ∀ xs, SqT K H a xs → xs[i]? = some x,
    fun i H => ∃ xs : List V, SqT K H a xs ∧ xs.length = i⟩
theorem turn_enumT {P : Program} {w : World} {K : PySem.W.Frag} {elts : List Expr} {kk : Nat} {tpos : Pos} {a e it : Addr} (hei : e ≠ it) (hae : a ≠ e) (hai : a ≠ it) :
    Turn P w K (.Tuple elts kk tpos) (IteT K a) [e, it] e (fun i h => (∃ old, IsEnum h e it ((i : Nat) : Int) old) ∧ h.IsTupleIter it a i) := by
  refine turn_pair (by simp) (fun i h st b hb => ?_) (fun i h h' st k => ?_) (fun A i s Q E st h => let ⟨⟨_, he⟩, _⟩ := st; wpAny_pyIter_enum he h) ?_ ?_
  · obtain ⟨⟨old, he⟩, ⟨o2, e2, _, d2⟩⟩ := st
    rcases List.mem_cons.mp hb with rfl | rest
    · exact ⟨_, he, fun v => nofun⟩
    · obtain rfl : b = it := by simpa using rest
      exact ⟨o2, e2, fun v no => by simp [d2] at no⟩
  · obtain ⟨⟨old, he⟩, h2⟩ := st
    exact ⟨⟨old, k e (by simp) _ he⟩, h2.at fun o q => k it (by simp) o q⟩
  · rintro X rfl rfl rfl i pins s σ H I hh ⟨he, hit⟩ ⟨xs, x, hq, hx⟩
    obtain ⟨its, rv, p, _⟩ := I.tuple hq
    obtain ⟨u, hu, ru⟩ := Vals.get (xs := xs) rv hx
    have pt : s.heap.IsTuple a its.toArray := p
    have W := GoesN.enumFrom (prog := X.prog) (w := X.w) (A := X.A) (elts := elts) (x1 := kk) (pos := tpos) 0 (Draws.tuple (prog := X.prog) (w := X.w) (A := X.A.in1) hh it a hai its.toArray) e hei (by simp [hei, Ne.symm hae]) (by simp)
    refine ⟨_, _, _, _, _, W, ?_, ⟨?_, hit, pt⟩, by simp, ?_⟩
    · have : i < its.length := (List.getElem?_eq_some_iff.mp hu).1
      simpa using this
    · obtain ⟨old, he⟩ := he
      exact ⟨old, by simpa using he⟩
    · rintro v h' ⟨T, t, x', rfl, hT, hx', ht⟩ ⟨⟨old, he'⟩, hit', _⟩
      have hx2 : its[i]? = some x' := by simpa using hx'
      rw [hu] at hx2
      cases hx2
      refine ⟨T, _, _, .int (i : Nat), x, rfl, hT, ht, ⟨t, by simp⟩, ru, ⟨⟨old, by simpa using he'⟩, hit'⟩, T, x, rfl, I.hok.fresh hT, rfl, fun l hl => ?_⟩
      rw [I.tuple_inj hl hq]
      exact hx
  · rintro X rfl rfl rfl i pins s σ H I hh ⟨he, hit⟩ ⟨xs, hq, hx⟩
    obtain ⟨its, rv, p, _⟩ := I.tuple hq
    have pt : s.heap.IsTuple a its.toArray := p
    have W := GoesN.enumFrom (prog := X.prog) (w := X.w) (A := X.A) (elts := elts) (x1 := kk) (pos := tpos) 0 (Draws.tuple (prog := X.prog) (w := X.w) (A := X.A.in1) hh it a hai its.toArray) e hei (by simp [hei, Ne.symm hae]) (by simp)
    have hl : its.toArray.size = i := by
      have q := rv.length
      simp only [List.size_toArray]
      omega
    rw [hl] at W
    refine ⟨_, _, _, _, W, ⟨?_, hit, pt⟩, by simp⟩
    obtain ⟨old, he⟩ := he
    exact ⟨old, by simpa using he⟩
theorem walk_enumT {K : PySem.W.Frag} {a : Addr} {xs : List V} : Walk (IteT K a) xs.length (fun H => SqT K H a xs) (YPair (fun i => some (.int (i : Nat))) (fun i => xs[i]?)) where
  goes := fun i H hi h => ⟨xs, xs[i], h, by simp [hi]⟩
  stops := fun H h => ⟨xs, h, rfl⟩
  yields := fun i H x H' hi h ⟨T, y, e1, e2, e3, e4⟩ => ⟨T, _, y, e1, e2, e3, rfl, e4 xs h⟩
/-- enumerate(v): v a list or a tuple -/
@[irreducible] def EnumG (K : PySem.W.Frag) (vs : List V) (H1 : Hp) (R : It → Hp → Prop) : Prop :=
  ∃ a, vs = [.ref a] ∧ ((∃ xs, SqL K H1 a xs ∧ R (Ite K a) H1) ∨ (∃ xs, SqT K H1 a xs ∧ R (IteT K a) H1))
def iEnumA (K : PySem.W.Frag) (ta : TA) : TI := fun σ H R => ta σ H fun vs H1 => EnumG K vs H1 R
theorem late2 {X : Cx} {pins : List (Addr × Obj)} {σ : L2.St} {H : Hp} {s : Shared} (inv : Inv X pins σ H s) : ∀ b ∈ [s.heap.objs.size + 1, s.heap.objs.size], FpOk X pins H b := by
  intro b hb
  have above : s.heap.objs.size ≤ b := by
    have : b = s.heap.objs.size + 1 ∨ b = s.heap.objs.size := by simpa using hb
    omega
  exact inv.fpOk above (inv.hok.fresh above)
theorem pi_enumA {X : Cx} {e : Expr} {ta : TA} {p pos tpos : Pos} {elts : List Expr} {kk : Nat} (hg : Gl X "enumerate") (hm : X.mg "enumerate" = none) (ha : PA X [e] ta) (hs : starEach [e] X.env = [(false, eval e X.env)] := by rfl) :
    PI X (.Tuple elts kk tpos) (.Call (.Name "enumerate" p) [e] [] pos) (iEnumA X.K ta) := by
  constructor
  intro pins s σ H R inv pre
  refine Call_ (ld_blt inv hg hm boot_enumerate (PyProof.Rows.callWith_type1 (thn (ha.run pos pins s σ H _ inv pre) ?_) hs rfl))
  rintro us s1 ⟨vs, H1, inv1, rel, post⟩
  rw [show EnumG X.K vs H1 R = (∃ a, vs = [.ref a] ∧ ((∃ xs, SqL X.K H1 a xs ∧ R (Ite X.K a) H1) ∨ (∃ xs, SqT X.K H1 a xs ∧ R (IteT X.K a) H1))) by unfold EnumG; rfl] at post
  obtain ⟨a, rfl, ⟨xs, sq, r⟩ | ⟨xs, sq, r⟩⟩ := post
  · obtain rfl := Vals.ref1 rel
    obtain ⟨its, _, at_, _⟩ := inv1.list sq
    exact call_enumerate_list at_.isList fun hp en li _ old => wpAny_pyIter_enum en ⟨_, _, _, _, H1, rfl, inv1.kept (t' := s1.toks) old, turn_enum a (s1.heap.objs.size + 1) s1.heap.objs.size, ⟨⟨.none, en⟩, li, Nat.succ_ne_self _⟩, late2 inv1, r⟩
  · obtain rfl := Vals.ref1 rel
    obtain ⟨its, _, at_, _⟩ := inv1.tuple sq
    have low : a < s1.heap.objs.size := at_.lt
    exact call_enumT (its := its.toArray) at_ fun hp en it_ old => wpAny_pyIter_enum en ⟨_, _, _, _, H1, rfl, inv1.kept (t' := s1.toks) old, turn_enumT (Nat.succ_ne_self _) (Nat.ne_of_lt (Nat.lt_succ_of_lt low)) (Nat.ne_of_lt low), ⟨⟨.none, en⟩, ⟨_, it_, rfl, rfl⟩⟩, late2 inv1, r⟩
end RM

set_option Elab.async false
set_option linter.all false
set_option maxRecDepth 100000
/-! zip(a tuple, a text) -/
namespace RM
open PySem PySem.Spec
open PyProof.Rows
open L2
def ItzTS (K : PySem.W.Frag) (a : Addr) (z : Str) : It :=
  ⟨fun i H => ∃ (xs : List V) (x : V) (c : Nat), SqT K H a xs ∧ xs[i]? = some x ∧ z.cps[i]? = some c,
    fun i H v H' => ∃ T x c, v = .ref T ∧ H T = none ∧ H' = upd H T (.tup [x, .str ⟨#[c]⟩]) ∧ (∀ xs, SqT K H a xs → xs[i]? = some x) ∧ z.cps[i]? = some c,
    fun i H => ∃ xs : List V, SqT K H a xs ∧ min xs.length z.cps.size = i⟩
theorem turn_zipTS {P : Program} {w : World} {K : PySem.W.Frag} {elts : List Expr} {kk : Nat} {tpos : Pos} {a z TI TO i1 i2 : Addr} {x : Str} {tx : Tok} (S : ZipSep2 z TI TO i1 i2 [i1, a] [i2]) (hai : a ≠ i1) :
    Turn P w K (.Tuple elts kk tpos) (ItzTS K a x) [z, TI, TO, i1, i2] z (fun i h => IsZip h z TI TO .none ∧ IsTupOf2 h TI (.ref i1) (.ref i2) ∧ (∃ a1 a2, IsTupOf2 h TO a1 a2) ∧ h.IsTupleIter i1 a i ∧ h.IsStrIter i2 (strIterType x) x tx i) := by
  refine turn_pair (by simp) (fun i h st b hb => ?_) (fun i h h' st k => ?_) (fun A i s Q E st h => wpAny_pyIter_zip st.1 h) ?_ ?_
  · obtain ⟨zi, ti, ⟨_, _, to_⟩, ⟨o1, e1, _, d1⟩, ⟨o2, e2, _, d2⟩⟩ := st
    simp only [List.mem_cons, List.not_mem_nil, or_false] at hb ⊢
    have fl : ∀ {o : Obj} {vs : Array Value}, o.data = .fields vs → ∀ v, o.data ≠ .cell v := fun d v no => by simp [d] at no
    obtain rfl | rfl | rfl | rfl | rfl := hb
    · exact ⟨_, zi, fun v => nofun⟩
    · exact ⟨_, ti, fun v => nofun⟩
    · exact ⟨_, to_, fun v => nofun⟩
    · exact ⟨o1, e1, fl d1⟩
    · exact ⟨o2, e2, fl d2⟩
  · obtain ⟨hz, hTI, ⟨a1, a2, hTO⟩, h1, h2⟩ := st
    exact ⟨k z (by simp) _ hz, k TI (by simp) _ hTI, ⟨a1, a2, k TO (by simp) _ hTO⟩, h1.at fun o q => k i1 (by simp) o q, let ⟨o, ho, r⟩ := h2; ⟨o, k i2 (by simp) o ho, r⟩⟩
  · rintro X rfl rfl rfl i pins s σ H I hh ⟨hz, hTI, hTO, h1, h2⟩ ⟨xs, y, c, hq, hx, hc⟩
    obtain ⟨its, rv, p, _⟩ := I.tuple hq
    obtain ⟨u, hu, ru⟩ := Vals.get (xs := xs) rv hx
    have pt : s.heap.IsTuple a its.toArray := p
    have W := GoesN.zip2 (prog := X.prog) (w := X.w) (A := X.A) (elts := elts) (x1 := kk) (pos := tpos) S (Draws.tuple (prog := X.prog) (w := X.w) (A := X.A.in1) hh i1 a hai its.toArray) (Draws.text (prog := X.prog) (w := X.w) (A := X.A.in1) hh i2 x tx)
    refine ⟨_, _, _, _, _, W, ?_, ⟨hz, hTI, hTO, ⟨h1, pt⟩, h2⟩, by simp, ?_⟩
    · have l1 : i < its.length := (List.getElem?_eq_some_iff.mp hu).1
      have l2 : i < x.cps.size := (Array.getElem?_eq_some_iff.mp hc).1
      simp only [List.size_toArray]
      omega
    · rintro v h' ⟨T, x', y', rfl, hT, hx', ⟨c', t', hc', rfl⟩, ht⟩ ⟨hz', hTI', hTO', ⟨h1', _⟩, h2'⟩
      have hx2 : its[i]? = some x' := by simpa using hx'
      rw [hu] at hx2
      cases hx2
      rw [hc] at hc'
      cases hc'
      refine ⟨T, _, _, y, .str ⟨#[c]⟩, rfl, hT, ht, ru, ⟨t', rfl⟩, ⟨hz', hTI', hTO', h1', h2'⟩, T, y, c, rfl, I.hok.fresh hT, rfl, fun l hl => ?_, hc⟩
      rw [I.tuple_inj hl hq]
      exact hx
  · rintro X rfl rfl rfl i pins s σ H I hh ⟨hz, hTI, hTO, h1, h2⟩ ⟨xs, hq, hl⟩
    obtain ⟨its, rv, p, _⟩ := I.tuple hq
    have pt : s.heap.IsTuple a its.toArray := p
    have W := GoesN.zip2 (prog := X.prog) (w := X.w) (A := X.A) (elts := elts) (x1 := kk) (pos := tpos) S (Draws.tuple (prog := X.prog) (w := X.w) (A := X.A.in1) hh i1 a hai its.toArray) (Draws.text (prog := X.prog) (w := X.w) (A := X.A.in1) hh i2 x tx)
    have hl2 : min its.toArray.size x.cps.size = i := by
      have q := rv.length
      simp only [List.size_toArray]
      omega
    rw [hl2] at W
    exact ⟨_, _, _, _, W, ⟨hz, hTI, hTO, ⟨h1, pt⟩, h2⟩, by simp⟩
def iZipTS (K : PySem.W.Frag) (ta : TA) : TI := fun σ H R => ta σ H fun vs H1 => ∃ a xs z, vs = [.ref a, .str z] ∧ SqT K H1 a xs ∧ R (ItzTS K a z) H1
theorem late5 {X : Cx} {pins : List (Addr × Obj)} {σ : L2.St} {H : Hp} {s : Shared} (inv : Inv X pins σ H s) :
    ∀ b ∈ [s.heap.objs.size + 4, s.heap.objs.size + 2, s.heap.objs.size + 3, s.heap.objs.size, s.heap.objs.size + 1], FpOk X pins H b := by
  intro b hb
  have above : s.heap.objs.size ≤ b := by
    have : b = s.heap.objs.size + 4 ∨ b = s.heap.objs.size + 2 ∨ b = s.heap.objs.size + 3 ∨ b = s.heap.objs.size ∨ b = s.heap.objs.size + 1 := by
      simpa using hb
    omega
  exact inv.fpOk above (inv.hok.fresh above)
theorem pi_zipTS {X : Cx} {e e2 : Expr} {ta : TA} {p pos tpos : Pos} {elts : List Expr} {kk : Nat} (hg : Gl X "zip") (hm : X.mg "zip" = none) (ha : PA X [e, e2] ta)
    (two : starEach [e, e2] X.env = (false, eval e X.env) :: starEach [e2] X.env := by rfl)
    (plain : (backTo pos (starEach [e2] X.env)).any (·.1) = false := by rfl) : PI X (.Tuple elts kk tpos) (.Call (.Name "zip" p) [e, e2] [] pos) (iZipTS X.K ta) := by
  constructor
  intro pins s σ H R inv pre
  refine Call_ (ld_blt inv hg hm PyProof.Rows.boot_zip (PyProof.Rows.callWith_type1 (thn (ha.run pos pins s σ H _ inv pre) ?_) two plain))
  rintro us s1 ⟨_, H1, inv1, rel, a, xs, z, rfl, sq, r⟩
  obtain ⟨_, u, rfl, rfl, ⟨tx, rfl⟩⟩ := vals2 rel
  obtain ⟨its, _, at_, _⟩ := inv1.tuple sq
  have low : a < s1.heap.objs.size := at_.lt
  have sep := zip_sep2 (N := s1.heap.objs.size) (fp1 := [a]) (fp2 := []) (fun b hb => (List.mem_singleton.mp hb).symm ▸ low) nofun
  exact zip_begins2 (begins_tuple a its.toArray) (begins_text z tx) at_ trivial fun hp zi ti to_ i1 i2 _ old =>
    wpAny_pyIter_zip zi ⟨_, _, _, _, H1, rfl, inv1.kept (t' := s1.toks) old, turn_zipTS sep (Nat.ne_of_lt low), ⟨zi, ti, ⟨_, _, to_⟩, ⟨_, i1, rfl, rfl⟩, ⟨_, i2, rfl, rfl⟩⟩, late5 inv1, r⟩
theorem walk_zipTS {K : PySem.W.Frag} {a : Addr} {xs : List V} {z : Str} (hl : xs.length = z.cps.size) : Walk (ItzTS K a z) xs.length (fun H => SqT K H a xs) (YPair (fun i => xs[i]?) (fun i => (z.cps[i]?).map fun c => .str ⟨#[c]⟩)) where
  goes := fun i H hi h => ⟨xs, xs[i], z.cps[i]'(by omega), h, by simp [hi], by simp⟩
  stops := fun H h => ⟨xs, h, by omega⟩
  yields := fun i H x H' hi h ⟨T, y, c, e1, e2, e3, e4, e5⟩ => ⟨T, y, _, e1, e2, e3, e4 xs h, by show Option.map _ z.cps[i]? = _; rw [e5]; rfl⟩
end RM

set_option Elab.async false
set_option linter.all false
set_option maxRecDepth 100000
set_option maxHeartbeats 2000000
/-! heaps that keep; sequences of either kind -/
namespace RM
open PySem PySem.Spec
open PyProof.Rows
open L2
/-- a clause's turns: at the end `fin`; else one more, behind whose tests `wk` is done -/
def Turns (J : It) (g : TG) (tt : TT) (wk : L2.St → Hp → (Hp → Prop) → Prop) (σ0 : L2.St) (vs : List Nat) (W : Nat → Nat → Hp → Prop) (fin : Hp → Prop) : Prop :=
  ∀ i m H, W i m H → (J.stop i H ∧ fin H) ∨ (J.go i H ∧ ∃ N : Hp → Prop, (∀ H', N H' → ∃ m', m' < m ∧ W (i + 1) m' H') ∧
    ∀ x H', J.yld i H x H' → g x σ0 H' fun σ2 H2 => wipe σ2 vs = σ0 ∧ tt σ2 H2 fun b H3 => if b = true then wk σ2 H3 N else N H3)
theorem smT {K : PySem.W.Frag} {H H' : Hp} {a : Addr} {xs : List V} (e : Same H H') (h : SqT K H a xs) : SqT K H' a xs := by
  exact h.imp (Or.imp (e _ _) fun ⟨o, at_⟩ => ⟨o, e _ _ at_⟩) id
theorem smNew {H H1 : Hp} (e : Same H H1) {p : Addr} (h : H1 p = none) (o : HO) : Same H (upd H1 p o) := fun b u q => by rw [upd_ne (ne_of_none (e b u q) h)]; exact e b u q
theorem smNew1 {H : Hp} {p : Addr} (h : H p = none) (o : HO) : Same H (upd H p o) := smNew (Same.refl H) h o
/-- p is none of H's -/
theorem smOut {H H1 : Hp} (e : Same H H1) {p : Addr} (h : H p = none) (o : HO) : Same H (upd H1 p o) := fun b u q => by rw [upd_ne (ne_of_none q h)]; exact e b u q
/-- the tuples stay -/
def TS (K : PySem.W.Frag) (H H' : Hp) : Prop := ∀ a xs, SqT K H a xs → SqT K H' a xs
theorem TS.refl (K : PySem.W.Frag) (H : Hp) : TS K H H := fun _ _ h => h
theorem TS.trans {K : PySem.W.Frag} {H H1 H2 : Hp} (a : TS K H H1) (b : TS K H1 H2) : TS K H H2 := fun p xs h => b p xs (a p xs h)
theorem ts_sm {K : PySem.W.Frag} {H H' : Hp} (e : Same H H') : TS K H H' := fun _ _ h => smT e h
/-- what no tuple is may change -/
def NoTup : HO → Prop
  | .tup _ => False
  | .frz _ _ => False
  | _ => True
theorem ts_upd {K : PySem.W.Frag} {H : Hp} {p : Addr} {u : HO} (o : HO) (h : H p = some u) (n : NoTup u) : TS K H (upd H p o) := fun a xs q => by
  rcases q with (q | ⟨ob, q⟩) | q
  · exact .inl (.inl (by rw [upd_ne (fun z => by rw [z, h] at q; cases q; exact n)]; exact q))
  · exact .inl (.inr ⟨ob, by rw [upd_ne (fun z => by rw [z, h] at q; cases q; exact n)]; exact q⟩)
  · exact .inr q
/-! ### walks of pairs: what the library's Goes.. give, as a Turn -/
/-- a sequence to be read: a list or a tuple -/
def SqA (K : PySem.W.Frag) (H : Hp) (a : Addr) (xs : List V) : Prop := SqL K H a xs ∨ SqT K H a xs
theorem sqA_sm {K : PySem.W.Frag} {H H' : Hp} {a : Addr} {xs : List V} (e : Same H H') (h : SqA K H a xs) : SqA K H' a xs := by
  rcases h with h | h
  · exact .inl (e.seq h)
  · exact .inr (smT e h)
theorem seqA_of {K : PySem.W.Frag} {H0 H : Hp} {a : Addr} {xs : List V} {R : It → Hp → Prop} (h : SqA K H0 a xs) (e : Same H0 H) (q : ∀ J, Walk J xs.length (fun H' => Same H0 H') (YAt xs) → R J H) :
    SeqG K (.ref a) H R := by
  unfold SeqG
  rcases h with h | h
  · exact ⟨a, rfl, .inl ⟨xs, e.seq h, q _ (walk_list.mono (fun H' e => e.seq h) fun i H x H' _ _ y => y)⟩⟩
  · exact ⟨a, rfl, .inr ⟨xs, smT e h, q _ (walk_tup.mono (fun H' e => smT e h) fun i H x H' _ _ y => y)⟩⟩
theorem enumA_of {K : PySem.W.Frag} {H0 H : Hp} {a : Addr} {xs : List V} {R : It → Hp → Prop} (h : SqA K H0 a xs) (e : Same H0 H) (q : ∀ J, Walk J xs.length (fun H' => Same H0 H') (YPair (fun i => some (.int (i : Nat))) (fun i => xs[i]?)) → R J H) :
    EnumG K [.ref a] H R := by
  unfold EnumG
  rcases h with h | h
  · exact ⟨a, rfl, .inl ⟨xs, e.seq h, q _ (walk_enum.mono (fun H' e => e.seq h) fun i H x H' _ _ y => y)⟩⟩
  · exact ⟨a, rfl, .inr ⟨xs, smT e h, q _ (walk_enumT.mono (fun H' e => smT e h) fun i H x H' _ _ y => y)⟩⟩
/-- t + u -/
@[irreducible] def CatG (K : PySem.W.Frag) : R2 := rCatA K
theorem op_catG {X : Cx} : OpR X (binaryOp .Add) (CatG X.K) := by
  unfold CatG
  exact op_catA
theorem op_catG' {X : Cx} {K : PySem.W.Frag} (hK : X.K = K) : OpR X (binaryOp .Add) (CatG K) := by
  subst hK
  exact op_catG
theorem catA_of {K : PySem.W.Frag} {H : Hp} {a b : Addr} {xs ys : List V} {Q : VK} (ha : SqT K H a xs) (hb : SqT K H b ys) (hl : xs.length + ys.length ≤ sizeLine)
    (q : ∀ t H', Same H H' → SqT K H' t (xs ++ ys) → Q (.ref t) H') : CatG K (.ref a) (.ref b) H Q := by
  unfold CatG
  refine ⟨a, b, xs, ys, rfl, rfl, ha, hb, hl, ?_, ?_, ?_⟩
  · intro e
    subst e
    exact q b H (Same.refl H) (by simpa using hb)
  · intro _ e
    subst e
    exact q a H (Same.refl H) (by simpa using ha)
  · intro _ _ p hp
    exact q p _ (smNew1 hp _) (SqT.of upd_same)
end RM

set_option Elab.async false
set_option linter.all false
set_option maxRecDepth 100000
set_option maxHeartbeats 2000000
namespace RM
open PySem PySem.Spec PyProof.Rows L2
/-! ### data in the heap -/
section
variable {K : PySem.W.Frag} {H H' : Hp}
mutual
theorem Dp.keep (e : Same H H') : ∀ {v : V} {d : PyData}, Dp K H v d → Dp K H' v d
  | _, _, .non => .non
  | _, _, .bl b => .bl b
  | _, _, .int i => .int i
  | _, _, .str x => .str x
  | _, _, .lst h r => .lst (e.seq h) (DpAll.keep e r)
  | _, _, .tup h r => .tup (smT e h) (DpAll.keep e r)
theorem DpAll.keep (e : Same H H') : ∀ {vs : List V} {ds : List PyData}, DpAll K H vs ds → DpAll K H' vs ds
  | _, _, .nil => .nil
  | _, _, .cons h r => .cons (Dp.keep e h) (DpAll.keep e r)
end
theorem DpAll.len : ∀ {vs : List V} {ds : List PyData}, DpAll K H vs ds → vs.length = ds.length
  | _, _, .nil => rfl
  | _, _, .cons h r => congrArg (· + 1) (DpAll.len r)
theorem DpAll.get : ∀ {vs : List V} {ds : List PyData}, DpAll K H vs ds → ∀ {i : Nat} {d : PyData}, ds[i]? = some d → ∃ v, vs[i]? = some v ∧ Dp K H v d
  | _, _, .nil, i, d, e => by simp at e
  | _, _, .cons h r, 0, d, e => by
    have e' := Option.some.inj e
    subst e'
    exact ⟨_, rfl, h⟩
  | _, _, .cons h r, i + 1, d, e => DpAll.get r (i := i) (by simpa using e)
theorem DpAll.getV : ∀ {vs : List V} {ds : List PyData}, DpAll K H vs ds → ∀ {i : Nat} {v : V}, vs[i]? = some v → ∃ d, ds[i]? = some d ∧ Dp K H v d
  | _, _, .nil, i, d, e => by simp at e
  | _, _, .cons h r, 0, d, e => by
    have e' := Option.some.inj e
    subst e'
    exact ⟨_, rfl, h⟩
  | _, _, .cons h r, i + 1, d, e => DpAll.getV r (i := i) (by simpa using e)
theorem DpAll.snoc : ∀ {vs : List V} {ds : List PyData} {v : V} {d : PyData}, DpAll K H vs ds → Dp K H v d → DpAll K H (vs ++ [v]) (ds ++ [d])
  | _, _, _, _, .nil, h => .cons h .nil
  | _, _, _, _, .cons g r, h => .cons g (DpAll.snoc r h)
theorem DpAll.app : ∀ {vs us : List V} {ds es : List PyData}, DpAll K H vs ds → DpAll K H us es → DpAll K H (vs ++ us) (ds ++ es)
  | _, _, _, _, .nil, h => h
  | _, _, _, _, .cons g r, h => .cons g (DpAll.app r h)
theorem Dp.str_inv {v : V} {x : Str} (h : Dp K H v (.str x)) : v = .str x := by cases h; rfl
theorem Dp.int_inv {v : V} {i : Int} (h : Dp K H v (.int i)) : v = .int i := by cases h; rfl
theorem Dp.tup_inv {v : V} {ds : List PyData} (h : Dp K H v (.tuple ds)) : ∃ a xs, v = .ref a ∧ SqT K H a xs ∧ DpAll K H xs ds := by cases h with | tup h r => exact ⟨_, _, rfl, h, r⟩
theorem Dp.lst_inv {v : V} {ds : List PyData} (h : Dp K H v (.list ds)) : ∃ a xs, v = .ref a ∧ SqL K H a xs ∧ DpAll K H xs ds := by cases h with | lst h r => exact ⟨_, _, rfl, h, r⟩
theorem DpAll.cons_inv {vs : List V} {d : PyData} {ds : List PyData} (h : DpAll K H vs (d :: ds)) : ∃ v r, vs = v :: r ∧ Dp K H v d ∧ DpAll K H r ds := by cases h with | cons h r => exact ⟨_, _, rfl, h, r⟩
theorem DpAll.nil_inv {vs : List V} (h : DpAll K H vs []) : vs = [] := by cases h; rfl
end
/-- a sequence: a list or a tuple -/
def seqD (fl : Bool) (l : List PyData) : PyData := if fl then .list l else .tuple l
theorem seqD_inv {K : PySem.W.Frag} {H : Hp} {v : V} {fl : Bool} {ds : List PyData} (h : Dp K H v (seqD fl ds)) : ∃ a xs, v = .ref a ∧ (SqL K H a xs ∨ SqT K H a xs) ∧ DpAll K H xs ds := by
  cases fl with
  | true => obtain ⟨a, xs, e, h1, h2⟩ := Dp.lst_inv h; exact ⟨a, xs, e, .inl h1, h2⟩
  | false => obtain ⟨a, xs, e, h1, h2⟩ := Dp.tup_inv h; exact ⟨a, xs, e, .inr h1, h2⟩
/-! ### statements -/
inductive Stm where
  | read (v k : Str) | set (v : Str) (n : Int) | copy (v u : Str) | print (v : Str) | say (n : Int) | wait
  | ite (v : Str) (n : Int) (a b : List Stm) | same (v u : Str) (a b : List Stm) | rep (n : Int) (a : List Stm) | stop
namespace Stm
def word : Stm → Str
  | .read .. => "read" | .set .. => "set" | .copy .. => "copy" | .print .. => "print" | .say .. => "say" | .wait => "wait"
  | .ite .. => "if" | .same .. => "same" | .rep .. => "repeat" | .stop => "stop"
def form : Stm → Str
  | .read .. => "kk" | .set .. => "kv" | .copy .. => "kk" | .print .. => "k" | .say .. => "v" | .wait => ""
  | .ite .. => "kvbb" | .same .. => "kkbb" | .rep .. => "tb" | .stop => ""
def flats : Stm → List PyData
  | .read v k => [.str v, .str k] | .set v n => [.str v, .int n] | .copy v u => [.str v, .str u] | .print v => [.str v] | .say n => [.int n] | .wait => []
  | .ite v n _ _ => [.str v, .int n] | .same v u _ _ => [.str v, .str u] | .rep n _ => [.int n] | .stop => []
def bodies : Stm → List (List Stm)
  | .ite _ _ a b => [a, b] | .same _ _ a b => [a, b] | .rep _ a => [a]
  | _ => []
/-- the variables that it names -/
def names : Stm → List Str
  | .read v _ => [v] | .set v _ => [v] | .copy v u => [v, u] | .print v => [v] | .say _ => [] | .wait => []
  | .ite v _ _ _ => [v] | .same v u _ _ => [v, u] | .rep _ _ => [] | .stop => []
end Stm
mutual
def encS (fl : Bool) : Stm → PyData
  | .read v k => .tuple [.str "read", .str v, .str k]
  | .set v n => .tuple [.str "set", .str v, .int n]
  | .copy v u => .tuple [.str "copy", .str v, .str u]
  | .print v => .tuple [.str "print", .str v]
  | .say n => .tuple [.str "say", .int n]
  | .wait => .tuple [.str "wait"]
  | .ite v n a b => .tuple [.str "if", .str v, .int n, seqD fl (encB fl a), seqD fl (encB fl b)]
  | .same v u a b => .tuple [.str "same", .str v, .str u, seqD fl (encB fl a), seqD fl (encB fl b)]
  | .rep n a => .tuple [.str "repeat", .int n, seqD fl (encB fl a)]
  | .stop => .tuple [.str "stop"]
def encB (fl : Bool) : List Stm → List PyData
  | [] => []
  | s :: r => encS fl s :: encB fl r
end
theorem encB_map (fl : Bool) : ∀ l : List Stm, encB fl l = l.map (encS fl)
  | [] => rfl
  | s :: r => by rw [encB, List.map_cons, encB_map fl r]
theorem encS_eq (fl : Bool) (s : Stm) : encS fl s = .tuple (.str s.word :: (s.flats ++ s.bodies.map fun b => seqD fl (encB fl b))) := by
  cases s <;> simp only [encS] <;> rfl
/-! ### words, values -/
def isValue (n : Int) : Bool := decide (-99 ≤ n) && decide (n ≤ 99)
def isLet (c : Nat) : Bool := decide (c ∈ ("abcdefghijklmnopqrstuvwxyz" : Str).cps.toList)
def isWord (z : Str) : Bool := decide (1 ≤ z.length) && decide (z.length ≤ 6) && z.cps.toList.all isLet
theorem isWord_len {z : Str} (h : isWord z = true) : z.length ≤ 6 := by
  unfold isWord at h
  rw [Bool.and_eq_true, Bool.and_eq_true] at h
  exact of_decide_eq_true h.1.2
theorem word_size {z : Str} (h : isWord z = true) : z.length ≤ sizeLine := Nat.le_of_lt (small1000 (by have := isWord_len h; omega))
/-- what stands in a statement itself is right -/
def wl : Stm → Bool
  | .read v k => isWord v && isWord k | .set v n => isWord v && isValue n | .copy v u => isWord v && isWord u | .print v => isWord v | .say n => isValue n | .wait => true
  | .ite v n _ _ => isWord v && isValue n | .same v u _ _ => isWord v && isWord u | .rep n _ => decide (0 ≤ n) && decide (n ≤ 3) | .stop => true
mutual
def wS : Stm → Bool
  | .read v k => isWord v && isWord k | .set v n => isWord v && isValue n | .copy v u => isWord v && isWord u | .print v => isWord v | .say n => isValue n | .wait => true
  | .ite v n a b => isWord v && isValue n && (wB a && wB b) | .same v u a b => isWord v && isWord u && (wB a && wB b) | .rep n a => (decide (0 ≤ n) && decide (n ≤ 3)) && wB a | .stop => true
def wB : List Stm → Bool
  | [] => true
  | s :: r => wS s && wB r
end
theorem wl_of {s : Stm} (h : wS s = true) : wl s = true := by
  cases s <;> simp only [wS, wl] at h ⊢ <;> first | exact h | exact (Bool.and_eq_true_iff.mp h).1
theorem wB_of {s : Stm} (h : wS s = true) : ∀ b ∈ s.bodies, wB b = true := by
  cases s <;> simp only [wS, Stm.bodies, List.mem_cons, List.not_mem_nil, or_false, Bool.and_eq_true, false_implies, implies_true] at h ⊢
  · rintro b (rfl | rfl)
    · exact h.2.1
    · exact h.2.2
  · rintro b (rfl | rfl)
    · exact h.2.1
    · exact h.2.2
  · rintro b rfl
    exact h.2
theorem wB_all : ∀ {l : List Stm}, wB l = true → ∀ s ∈ l, wS s = true
  | [], _, s, h => by simp at h
  | t :: r, w, s, h => by
    rw [wB, Bool.and_eq_true] at w
    rcases List.mem_cons.mp h with rfl | h
    · exact w.1
    · exact wB_all w.2 s h
theorem isValue_rep {n : Int} (h : (decide (0 ≤ n) && decide (n ≤ 3)) = true) : isValue n = true := by
  rw [Bool.and_eq_true] at h
  have h1 := of_decide_eq_true h.1
  have h2 := of_decide_eq_true h.2
  unfold isValue
  rw [decide_eq_true (by omega), decide_eq_true (by omega)]
  rfl
/-! ### numbers of a statement -/
mutual
/-- how deep bodies are nested in a statement, a body -/
def dS : Stm → Nat
  | .ite _ _ a b => max (dB a) (dB b)
  | .same _ _ a b => max (dB a) (dB b)
  | .rep _ a => dB a
  | _ => 0
def dB : List Stm → Nat
  | [] => 1
  | s :: r => max (dS s + 1) (dB r)
end
mutual
/-- how many statements, inner ones counted -/
def cS : Stm → Nat
  | .ite _ _ a b => 1 + cB a + cB b
  | .same _ _ a b => 1 + cB a + cB b
  | .rep _ a => 1 + cB a
  | _ => 1
def cB : List Stm → Nat
  | [] => 0
  | s :: r => cS s + cB r
end
mutual
/-- the statements of a body with their paths, in the order of the text -/
def aS (p : List Int) : Stm → List (List Int × Stm)
  | .ite v n a b => (p, .ite v n a b) :: (aB (p ++ [0]) 0 a ++ aB (p ++ [1]) 0 b)
  | .same v u a b => (p, .same v u a b) :: (aB (p ++ [0]) 0 a ++ aB (p ++ [1]) 0 b)
  | .rep n a => (p, .rep n a) :: aB (p ++ [0]) 0 a
  | s => [(p, s)]
def aB (p : List Int) (i : Nat) : List Stm → List (List Int × Stm)
  | [] => []
  | s :: r => aS (p ++ [(i : Int)]) s ++ aB p (i + 1) r
end
theorem dB_one : ∀ l : List Stm, 1 ≤ dB l
  | [] => Nat.le_refl 1
  | s :: r => by rw [dB]; exact Nat.le_trans (dB_one r) (Nat.le_max_right _ _)
theorem dB_mem : ∀ {l : List Stm} {s : Stm}, s ∈ l → dS s + 1 ≤ dB l
  | [], s, h => by simp at h
  | t :: r, s, h => by
    rw [dB]
    rcases List.mem_cons.mp h with rfl | h
    · exact Nat.le_max_left _ _
    · exact Nat.le_trans (dB_mem h) (Nat.le_max_right _ _)
theorem dS_mem {s : Stm} {b : List Stm} (h : b ∈ s.bodies) : dB b ≤ dS s := by
  cases s <;> simp only [Stm.bodies, List.mem_cons, List.not_mem_nil, or_false] at h <;> simp only [dS]
  · rcases h with rfl | rfl
    · exact Nat.le_max_left _ _
    · exact Nat.le_max_right _ _
  · rcases h with rfl | rfl
    · exact Nat.le_max_left _ _
    · exact Nat.le_max_right _ _
  · rw [h]; exact Nat.le_refl _
theorem cS_pos (s : Stm) : 1 ≤ cS s := by cases s <;> simp only [cS] <;> omega
theorem cB_mem : ∀ {l : List Stm} {s : Stm}, s ∈ l → cS s ≤ cB l
  | [], s, h => by simp at h
  | t :: r, s, h => by
    rw [cB]
    rcases List.mem_cons.mp h with rfl | h
    · omega
    · have := cB_mem h; omega
theorem cS_mem {s : Stm} {b : List Stm} (h : b ∈ s.bodies) : cB b + 1 ≤ cS s := by
  cases s <;> simp only [Stm.bodies, List.mem_cons, List.not_mem_nil, or_false] at h <;> simp only [cS]
  · rcases h with rfl | rfl <;> omega
  · rcases h with rfl | rfl <;> omega
  · rw [h]; omega
theorem cB_len : ∀ l : List Stm, l.length ≤ cB l
  | [] => Nat.le_refl 0
  | s :: r => by
    have := cB_len r
    have := cS_pos s
    rw [cB, List.length_cons]
    omega
/-! ### kinds -/
theorem tyT {K : PySem.W.Frag} {H : Hp} {a : Addr} {xs : List V} (h : SqT K H a xs) : TyX K H (.ref a) (.type "tuple") := by
  rcases h with (h | ⟨o, h⟩) | ⟨o, its, n, h, hc, _⟩
  · exact .base (.tup h)
  · exact .fTuple h
  · exact .kTuple h hc
theorem tyL {K : PySem.W.Frag} {H : Hp} {a : Addr} {xs : List V} (h : SqL K H a xs) : TyX K H (.ref a) (.type "list") := by
  rcases h with (h | ⟨o, h⟩) | ⟨o, its, n, h, hc, _⟩
  · exact .base (.lst h)
  · exact .base (.frz h)
  · exact .kList h hc
/-! ### cuts -/
theorem cut_tail (x : V) (xs : List V) : cutV (x :: xs) (some 1) none = xs := by
  unfold cutV
  have e1 : HT.sIx (x :: xs).length 0 (some 1) = 1 := by
    have := HT.sIx_nat (x :: xs).length 0 1
    rw [show (some 1 : Option Int) = some ((1 : Nat) : Int) from rfl, this, List.length_cons]
    omega
  rw [e1, HT.sIx_none, List.length_cons]
  show (xs.drop 0).take (xs.length + 1 - 1) = xs
  rw [List.drop_zero, Nat.add_sub_cancel, List.take_length]
theorem cut_not {x : V} {xs : List V} : ¬ (HT.sIx (x :: xs).length 0 (some 1) = 0 ∧ HT.sIx (x :: xs).length (x :: xs).length none = (x :: xs).length) := by
  intro h
  have := HT.sIx_nat (x :: xs).length 0 1
  rw [show (some 1 : Option Int) = some ((1 : Nat) : Int) from rfl, this, List.length_cons] at h
  omega
/-! ### comprehensions over a walk: what is kept of each item -/
theorem paired_mono {α β : Type} {F G : α → β → Prop} {l : List α} {m : List β} (p : Paired F l m) (h : ∀ a b, F a b → G a b) : Paired G l m := L2.Paired.mapP p h
/-- a new item goes to the list at D -/
abbrev addsL (D : Addr) (te : TE) : L2.St → Hp → (Hp → Prop) → Prop := fun σ H N => te σ H fun y H1 => ∃ acc, H1 D = some (.lst acc) ∧ acc.length < sizeLine ∧ N (upd H1 D (.lst (acc ++ [y])))
theorem lc_opt {α : Type} {J : It} {n : Nat} {G : Hp → Prop} {Y : Nat → Hp → V → Hp → Prop} (wk : Walk J n G Y) {g : TG} {tt : TT} {te : TE} {vs : List Nat} {σ : L2.St} {H1 : Hp} {D : Addr} {Qd : Hp → Prop}
    (R : α → V → Hp → Prop) (o : Nat → Option α) (hD : H1 D = none) (hn : n < sizeLine) (hG : ∀ H, Same H1 H → G H)
    (hR : ∀ a y H H', R a y H → Same H H' → R a y H') (hRD : ∀ a y H l l', R a y H → H D = some (.lst l) → R a y (upd H D (.lst l')))
    (hs : ∀ i x H H' (N : Hp → Prop), i < n → Same H1 H → Y i H x H' →
      (∀ y H4 a, o i = some a → Same H H4 → R a y H4 → ∃ acc, H4 D = some (.lst acc) ∧ acc.length < sizeLine ∧ N (upd H4 D (.lst (acc ++ [y])))) → (o i = none → ∀ H3, Same H H3 → N H3) →
      g x (wipe σ vs) H' fun σ2 H2 => wipe σ2 vs = wipe σ vs ∧ tt σ2 H2 fun b H3 => if b = true then addsL D te σ2 H3 N else N H3)
    (hd : ∀ H ys, Same H1 H → H D = some (.lst ys) → Paired (fun y a => R a y H) ys ((List.range n).filterMap o) → Qd H) :
    ∃ W : Nat → Nat → Hp → Prop, (∃ m, W 0 m (upd H1 D (.lst []))) ∧ Turns J g tt (addsL D te) (wipe σ vs) vs W Qd := by
  have len : ∀ i, ((List.range i).filterMap o).length ≤ i := fun i => Nat.le_trans (List.length_filterMap_le ..) (by simp)
  refine lc_it wk (fun i H => i ≤ n ∧ Same H1 H ∧ ∃ acc, H D = some (.lst acc) ∧ Paired (fun y a => R a y H) acc ((List.range i).filterMap o)) ⟨Nat.zero_le _, smNew1 hD _, [], upd_same, .nil⟩ (fun i H _ h => hG H h.2.1) ?_ ?_
  · rintro i x H H' hi ⟨_, s1, acc, hacc, p⟩ y
    refine hs i x H H' _ hi s1 y (fun y H4 a ha s4 r => ⟨acc, s4 _ _ hacc, ?_, hi, ?_, acc ++ [y], upd_same, ?_⟩) (fun ha H3 s3 => ⟨hi, fun b u q => s3 _ _ (s1 _ _ q), acc, s3 _ _ hacc, ?_⟩)
    · have := p.length
      have := len i
      omega
    · intro b u q
      rw [upd_ne (ne_of_none q hD)]
      exact s4 _ _ (s1 _ _ q)
    · rw [List.range_succ, List.filterMap_append, List.filterMap_cons, ha]
      refine Paired.snoc (paired_mono p fun y' a' r' => ?_) ?_
      · exact hRD _ _ _ _ _ (hR _ _ _ _ r' s4) (s4 _ _ hacc)
      · exact hRD _ _ _ _ _ r (s4 _ _ hacc)
    · rw [List.range_succ, List.filterMap_append, List.filterMap_cons, ha]
      show Paired _ acc (_ ++ [])
      rw [List.append_nil]
      exact paired_mono p fun y' a' r' => hR _ _ _ _ r' s3
  · rintro H ⟨_, s1, acc, hacc, p⟩
    exact hd H acc s1 hacc p
theorem paired_const {α β : Type} {v : α} : ∀ {ys : List α} {l : List β}, Paired (fun y _ => y = v) ys l → ys = List.replicate l.length v
  | _, _, .nil => rfl
  | _, _, .cons h t => by rw [h, paired_const t]; rfl
theorem range_some {α : Type} (f : Nat → α) (n : Nat) : (List.range n).filterMap (fun i => some (f i)) = (List.range n).map f := by
  induction n with
  | zero => rfl
  | succ n ih => rw [List.range_succ, List.filterMap_append, List.map_append, ih]; rfl
theorem rep_bl (n : Nat) : List.replicate n (V.bl true) = (List.replicate n true).map V.bl := (List.map_replicate ..).symm
theorem all_rep (n : Nat) : (List.replicate n true).all id = true := by
  rw [List.all_eq_true]
  intro x hx
  rw [(List.mem_replicate.mp hx).2]
  rfl
/-! ### data without lists -/
mutual
def noL : PyData → Bool
  | .list _ => false
  | .tuple ds => noLs ds
  | .dict _ => false
  | _ => true
def noLs : List PyData → Bool
  | [] => true
  | d :: r => noL d && noLs r
end
section
variable {K : PySem.W.Frag} {H H' : Hp}
mutual
theorem dp_ts (e : TS K H H') : ∀ {v : V} {d : PyData}, Dp K H v d → noL d = true → Dp K H' v d
  | _, _, .non, _ => .non
  | _, _, .bl b, _ => .bl b
  | _, _, .int i, _ => .int i
  | _, _, .str x, _ => .str x
  | _, _, .lst _ _, n => by simp [noL] at n
  | _, _, .tup h r, n => .tup (e _ _ h) (dps_ts e r (by simpa [noL] using n))
theorem dps_ts (e : TS K H H') : ∀ {vs : List V} {ds : List PyData}, DpAll K H vs ds → noLs ds = true → DpAll K H' vs ds
  | _, _, .nil, _ => .nil
  | _, _, .cons h r, n => by
    rw [noLs, Bool.and_eq_true] at n
    exact .cons (dp_ts e h n.1) (dps_ts e r n.2)
end
end
mutual
theorem noL_encS : ∀ s : Stm, noL (encS false s) = true
  | .read v k => rfl
  | .set v n => rfl
  | .copy v u => rfl
  | .print v => rfl
  | .say n => rfl
  | .wait => rfl
  | .stop => rfl
  | .ite v n a b => by
    have h1 := noL_encB a
    have h2 := noL_encB b
    simp only [encS, seqD, Bool.false_eq_true, if_false, noL, noLs, h1, h2, Bool.and_self]
  | .same v u a b => by
    have h1 := noL_encB a
    have h2 := noL_encB b
    simp only [encS, seqD, Bool.false_eq_true, if_false, noL, noLs, h1, h2, Bool.and_self]
  | .rep n a => by
    have h1 := noL_encB a
    simp only [encS, seqD, Bool.false_eq_true, if_false, noL, noLs, h1, Bool.and_self]
theorem noL_encB : ∀ l : List Stm, noLs (encB false l) = true
  | [] => rfl
  | s :: r => by
    have h1 := noL_encS s
    have h2 := noL_encB r
    rw [encB, noLs, h1, h2]
    rfl
end
theorem noLs_get : ∀ {ds : List PyData}, noLs ds = true → ∀ d ∈ ds, noL d = true
  | [], _, d, h => by simp at h
  | e :: r, n, d, h => by
    rw [noLs, Bool.and_eq_true] at n
    rcases List.mem_cons.mp h with rfl | h
    · exact n.1
    · exact noLs_get n.2 d h
theorem noLs_of : ∀ {ds : List PyData}, (∀ d ∈ ds, noL d = true) → noLs ds = true
  | [], _ => rfl
  | e :: r, h => by rw [noLs, h e List.mem_cons_self, noLs_of fun d hd => h d (List.mem_cons_of_mem _ hd)]; rfl
theorem noLs_app : ∀ {ds es : List PyData}, noLs ds = true → noLs es = true → noLs (ds ++ es) = true
  | [], _, _, h => h
  | e :: r, es, n, h => by
    rw [noLs, Bool.and_eq_true] at n
    rw [List.cons_append, noLs, n.1, noLs_app n.2 h]
    rfl
/-- a tuple of ints -/
def pathD (p : List Int) : PyData := .tuple (p.map .int)
theorem noL_path (p : List Int) : noL (pathD p) = true := by
  show noLs (p.map .int) = true
  exact noLs_of fun d h => by
    obtain ⟨i, _, rfl⟩ := List.mem_map.mp h
    rfl
theorem ints_dp {K : PySem.W.Frag} {H : Hp} : ∀ p : List Int, DpAll K H (p.map V.int) (p.map .int)
  | [] => .nil
  | i :: r => .cons (.int i) (ints_dp r)
theorem ints_inv {K : PySem.W.Frag} {H : Hp} : ∀ {p : List Int} {vs : List V}, DpAll K H vs (p.map .int) → vs = p.map V.int
  | [], _, h => DpAll.nil_inv h
  | i :: r, _, h => by
    obtain ⟨v, q, rfl, h1, h2⟩ := DpAll.cons_inv h
    rw [Dp.int_inv h1, ints_inv h2]
    rfl
theorem path_dp {K : PySem.W.Frag} {H : Hp} {a : Addr} {p : List Int} (h : SqT K H a (p.map V.int)) : Dp K H (.ref a) (pathD p) := .tup h (ints_dp p)
theorem path_inv {K : PySem.W.Frag} {H : Hp} {v : V} {p : List Int} (h : Dp K H v (pathD p)) : ∃ a, v = .ref a ∧ SqT K H a (p.map V.int) := by
  obtain ⟨a, xs, rfl, h1, h2⟩ := Dp.tup_inv h
  rw [ints_inv h2] at h1
  exact ⟨a, rfl, h1⟩
/-! ### the signs of a statement's items -/
def Stm.signs : Stm → List Nat
  | .read .. => [107, 107] | .set .. => [107, 118] | .copy .. => [107, 107] | .print .. => [107] | .say .. => [118] | .wait => []
  | .ite .. => [107, 118, 98, 98] | .same .. => [107, 107, 98, 98] | .rep .. => [116, 98] | .stop => []
theorem signs_eq (s : Stm) : s.form.cps.toList = s.signs := by cases s <;> (simp only [Stm.form, Stm.signs]; decide +kernel)
theorem sign_at {s : Stm} {i c : Nat} (h : s.form.cps[i]? = some c) : s.signs[i]? = some c := by rw [← signs_eq]; simpa using h
/-- one sign of a text beside another -/
theorem sgn (c x : Nat) : decide (V.str ⟨#[c]⟩ = V.str ⟨#[x]⟩) = decide (c = x) := by
  by_cases h : c = x
  · rw [h, decide_eq_true rfl, decide_eq_true rfl]
  · rw [decide_eq_false h, decide_eq_false]
    intro e
    injection e with e1
    injection e1 with e2
    exact h (by simpa using e2)
theorem str_k : ("k" : Str) = ⟨#[107]⟩ := by decide +kernel
theorem str_b : ("b" : Str) = ⟨#[98]⟩ := by decide +kernel
/-- the items that are bodies, by their signs -/
theorem bodies_sel (s : Stm) (f : List Stm → PyData) :
    (List.range (s.flats ++ s.bodies.map f).length).filterMap (fun i => if s.signs[i]? = some 98 then (s.flats ++ s.bodies.map f)[i]? else none) = s.bodies.map f := by
  cases s <;> rfl
theorem names_sel (s : Stm) (f : List Stm → PyData) (h : ∀ v k, s ≠ .read v k) :
    (List.range (s.flats ++ s.bodies.map f).length).filterMap (fun i => if s.signs[i]? = some 107 then (s.flats ++ s.bodies.map f)[i]? else none) = s.names.map .str := by
  cases s <;> first | rfl | exact absurd rfl (h _ _)
theorem some_range {α : Type} : ∀ (l : List α), (List.range l.length).filterMap (fun i => l[i]?) = l := by
  intro l
  have e : ∀ n, n ≤ l.length → (List.range n).filterMap (fun i => l[i]?) = l.take n := by
    intro n
    induction n with
    | zero => intro _; simp
    | succ n ih =>
      intro hn
      rw [List.range_succ, List.filterMap_append, ih (by omega), List.take_add_one]
      have : l[n]? = some l[n] := List.getElem?_eq_getElem (by omega)
      simp [this]
  rw [e l.length (Nat.le_refl _), List.take_length]
theorem sign98 {s : Stm} {i : Nat} (h : s.signs[i]? = some 98) : ∃ b ∈ s.bodies, ∀ f : List Stm → PyData, (s.flats ++ s.bodies.map f)[i]? = some (f b) := by
  cases s with
  | ite v n a b =>
    match i, h with
    | 2, _ => exact ⟨a, by simp [Stm.bodies], fun f => rfl⟩
    | 3, _ => exact ⟨b, by simp [Stm.bodies], fun f => rfl⟩
    | 0, h => simp [Stm.signs] at h
    | 1, h => simp [Stm.signs] at h
    | n + 4, h => simp [Stm.signs] at h
  | same v n a b =>
    match i, h with
    | 2, _ => exact ⟨a, by simp [Stm.bodies], fun f => rfl⟩
    | 3, _ => exact ⟨b, by simp [Stm.bodies], fun f => rfl⟩
    | 0, h => simp [Stm.signs] at h
    | 1, h => simp [Stm.signs] at h
    | n + 4, h => simp [Stm.signs] at h
  | rep n a =>
    match i, h with
    | 1, _ => exact ⟨a, by simp [Stm.bodies], fun f => rfl⟩
    | 0, h => simp [Stm.signs] at h
    | n + 2, h => simp [Stm.signs] at h
  | read v k => match i, h with
    | 0, h => simp [Stm.signs] at h
    | 1, h => simp [Stm.signs] at h
    | n + 2, h => simp [Stm.signs] at h
  | set v k => match i, h with
    | 0, h => simp [Stm.signs] at h
    | 1, h => simp [Stm.signs] at h
    | n + 2, h => simp [Stm.signs] at h
  | copy v k => match i, h with
    | 0, h => simp [Stm.signs] at h
    | 1, h => simp [Stm.signs] at h
    | n + 2, h => simp [Stm.signs] at h
  | print v => match i, h with
    | 0, h => simp [Stm.signs] at h
    | n + 1, h => simp [Stm.signs] at h
  | say v => match i, h with
    | 0, h => simp [Stm.signs] at h
    | n + 1, h => simp [Stm.signs] at h
  | wait => simp [Stm.signs] at h
  | stop => simp [Stm.signs] at h
theorem signFlat {s : Stm} {i c : Nat} (h : s.signs[i]? = some c) (n : c ≠ 98) : ∃ d, noL d = true ∧ ∀ f : List Stm → PyData, (s.flats ++ s.bodies.map f)[i]? = some d := by
  cases s with
  | ite v m a b =>
    match i, h with
    | 0, _ => exact ⟨.str v, rfl, fun f => rfl⟩
    | 1, _ => exact ⟨.int m, rfl, fun f => rfl⟩
    | 2, h => exact absurd (Option.some.inj h).symm n
    | 3, h => exact absurd (Option.some.inj h).symm n
    | k + 4, h => simp [Stm.signs] at h
  | same v m a b =>
    match i, h with
    | 0, _ => exact ⟨.str v, rfl, fun f => rfl⟩
    | 1, _ => exact ⟨.str m, rfl, fun f => rfl⟩
    | 2, h => exact absurd (Option.some.inj h).symm n
    | 3, h => exact absurd (Option.some.inj h).symm n
    | k + 4, h => simp [Stm.signs] at h
  | rep m a =>
    match i, h with
    | 0, _ => exact ⟨.int m, rfl, fun f => rfl⟩
    | 1, h => exact absurd (Option.some.inj h).symm n
    | k + 2, h => simp [Stm.signs] at h
  | read v k => match i, h with
    | 0, h => exact ⟨.str v, rfl, fun f => rfl⟩
    | 1, h => exact ⟨.str k, rfl, fun f => rfl⟩
    | n + 2, h => simp [Stm.signs] at h
  | set v k => match i, h with
    | 0, h => exact ⟨.str v, rfl, fun f => rfl⟩
    | 1, h => exact ⟨.int k, rfl, fun f => rfl⟩
    | n + 2, h => simp [Stm.signs] at h
  | copy v k => match i, h with
    | 0, h => exact ⟨.str v, rfl, fun f => rfl⟩
    | 1, h => exact ⟨.str k, rfl, fun f => rfl⟩
    | n + 2, h => simp [Stm.signs] at h
  | print v => match i, h with
    | 0, h => exact ⟨.str v, rfl, fun f => rfl⟩
    | n + 1, h => simp [Stm.signs] at h
  | say v => match i, h with
    | 0, h => exact ⟨.int v, rfl, fun f => rfl⟩
    | n + 1, h => simp [Stm.signs] at h
  | wait => simp [Stm.signs] at h
  | stop => simp [Stm.signs] at h
theorem items_len (s : Stm) (f : List Stm → PyData) : (s.flats ++ s.bodies.map f).length = s.signs.length := by cases s <;> rfl
/-! ### paths -/
def aBs (q : List Int) : Nat → List (List Stm) → List (List Int × Stm)
  | _, [] => []
  | j, b :: r => aB (q ++ [(j : Int)]) 0 b ++ aBs q (j + 1) r
theorem aS_eq (q : List Int) (s : Stm) : aS q s = (q, s) :: aBs q 0 s.bodies := by
  cases s <;> simp only [aS, Stm.bodies, aBs, List.append_nil] <;> rfl
theorem aB_app (p : List Int) : ∀ (l m : List Stm) (k : Nat), aB p k (l ++ m) = aB p k l ++ aB p (k + l.length) m
  | [], m, k => rfl
  | s :: r, m, k => by
    rw [List.cons_append, aB, aB, aB_app p r m (k + 1), List.append_assoc, List.length_cons]
    rw [show k + 1 + r.length = k + (r.length + 1) by omega]
theorem aBs_app (q : List Int) : ∀ (l m : List (List Stm)) (k : Nat), aBs q k (l ++ m) = aBs q k l ++ aBs q (k + l.length) m
  | [], m, k => rfl
  | s :: r, m, k => by
    rw [List.cons_append, aBs, aBs, aBs_app q r m (k + 1), List.append_assoc, List.length_cons]
    rw [show k + 1 + r.length = k + (r.length + 1) by omega]
theorem take_more {α : Type} {l : List α} {i : Nat} {x : α} (h : l[i]? = some x) : l.take (i + 1) = l.take i ++ [x] := by
  rw [List.take_add_one, h]
  rfl
theorem len_take {α : Type} {l : List α} {i : Nat} {x : α} (h : l[i]? = some x) : (l.take i).length = i := by
  have := (List.getElem?_eq_some_iff.mp h).1
  rw [List.length_take]
  omega
theorem aB_take {p : List Int} {l : List Stm} {i : Nat} {s : Stm} (h : l[i]? = some s) : aB p 0 (l.take (i + 1)) = aB p 0 (l.take i) ++ aS (p ++ [(i : Int)]) s := by
  rw [take_more h, aB_app, len_take h]
  show _ ++ aB p (0 + i) [s] = _
  rw [Nat.zero_add, aB, aB, List.append_nil]
theorem aBs_take {q : List Int} {l : List (List Stm)} {i : Nat} {b : List Stm} (h : l[i]? = some b) : aBs q 0 (l.take (i + 1)) = aBs q 0 (l.take i) ++ aB (q ++ [(i : Int)]) 0 b := by
  rw [take_more h, aBs_app, len_take h]
  show _ ++ aBs q (0 + i) [b] = _
  rw [Nat.zero_add, aBs, aBs, List.append_nil]
mutual
theorem aS_len : ∀ (p : List Int) (s : Stm), (aS p s).length = cS s
  | p, .ite v n a b => by simp only [aS, cS, List.length_cons, List.length_append, aB_len]; omega
  | p, .same v n a b => by simp only [aS, cS, List.length_cons, List.length_append, aB_len]; omega
  | p, .rep n a => by simp only [aS, cS, List.length_cons, aB_len]; omega
  | p, .read v k => rfl
  | p, .set v k => rfl
  | p, .copy v k => rfl
  | p, .print v => rfl
  | p, .say v => rfl
  | p, .wait => rfl
  | p, .stop => rfl
theorem aB_len : ∀ (p : List Int) (k : Nat) (l : List Stm), (aB p k l).length = cB l
  | p, k, [] => rfl
  | p, k, s :: r => by rw [aB, cB, List.length_append, aS_len, aB_len]
end
/-! ### depths -/
def dBs : List (List Stm) → Nat
  | [] => 0
  | b :: r => max (dB b) (dBs r)
theorem dS_eq (s : Stm) : dS s = dBs s.bodies := by cases s <;> simp [dS, Stm.bodies, dBs]
theorem dBs_snoc : ∀ (l : List (List Stm)) (b : List Stm), dBs (l ++ [b]) = max (dBs l) (dB b)
  | [], b => by simp [dBs]
  | c :: r, b => by rw [List.cons_append, dBs, dBs, dBs_snoc r b, Nat.max_assoc]
theorem dB_snoc : ∀ (l : List Stm) (s : Stm), dB (l ++ [s]) = max (dB l) (dS s + 1)
  | [], s => by simp only [List.nil_append, dB]; omega
  | c :: r, s => by rw [List.cons_append, dB, dB, dB_snoc r s, Nat.max_assoc]
end RM

set_option Elab.async false
set_option linter.all false
set_option maxRecDepth 100000
set_option maxHeartbeats 2000000
/-! what == reads of a program's data -/
namespace RM
open PySem PySem.Spec PyProof.Rows L2
theorem noL_tuple {ds : List PyData} (h : noLs ds = true) : noL (.tuple ds) = true := h
theorem let_lt {c : Nat} (h : isLet c = true) : c < 128 := by
  have a : ∀ c ∈ ("abcdefghijklmnopqrstuvwxyz" : Str).cps.toList, c < 128 := by decide +kernel
  exact a c (of_decide_eq_true h)
theorem word_ok {z : Str} (h : isWord z = true) : PyData.strOk z = true := by
  unfold isWord at h
  rw [Bool.and_eq_true] at h
  unfold PyData.strOk
  rw [Array.all_eq_true]
  intro i hi
  have := List.all_eq_true.mp h.2 (z.cps[i]) (by simp)
  exact decide_eq_true (Nat.lt_trans (let_lt this) (by decide))
theorem lay_seq {fl : Bool} {ds : List PyData} (h : PyData.canLayAll0 ds = true) : (seqD fl ds).canLay0 = true := by
  cases fl <;> exact h
theorem dep_seq {fl : Bool} {ds : List PyData} : (seqD fl ds).depth = PyData.depthAll ds + 1 := by
  cases fl <;> simp only [seqD, PyData.depth] <;> rfl
theorem ok_words : ∀ z ∈ (["read", "set", "copy", "print", "say", "wait", "if", "same", "repeat", "stop"] : List Str), PyData.strOk z = true := by decide +kernel
mutual
theorem lay_encS (fl : Bool) : ∀ s : Stm, wS s = true → (encS fl s).canLay0 = true
  | .read v k, h => by
    simp only [wS, Bool.and_eq_true] at h
    simp only [encS, PyData.canLay0, PyData.canLayAll0, word_ok h.1, word_ok h.2, ok_words "read" (by decide), Bool.and_self]
  | .set v n, h => by
    simp only [wS, Bool.and_eq_true] at h
    simp only [encS, PyData.canLay0, PyData.canLayAll0, word_ok h.1, ok_words "set" (by decide), Bool.and_self]
  | .copy v u, h => by
    simp only [wS, Bool.and_eq_true] at h
    simp only [encS, PyData.canLay0, PyData.canLayAll0, word_ok h.1, word_ok h.2, ok_words "copy" (by decide), Bool.and_self]
  | .print v, h => by
    simp only [wS] at h
    simp only [encS, PyData.canLay0, PyData.canLayAll0, word_ok h, ok_words "print" (by decide), Bool.and_self]
  | .say n, h => by
    simp only [encS, PyData.canLay0, PyData.canLayAll0, ok_words "say" (by decide), Bool.and_self]
  | .wait, h => by
    simp only [encS, PyData.canLay0, PyData.canLayAll0, ok_words "wait" (by decide), Bool.and_self]
  | .stop, h => by
    simp only [encS, PyData.canLay0, PyData.canLayAll0, ok_words "stop" (by decide), Bool.and_self]
  | .ite v n a b, h => by
    simp only [wS, Bool.and_eq_true] at h
    simp only [encS, PyData.canLay0, PyData.canLayAll0, word_ok h.1.1, lay_seq (lay_encB fl a h.2.1), lay_seq (lay_encB fl b h.2.2), ok_words "if" (by decide), Bool.and_self]
  | .same v u a b, h => by
    simp only [wS, Bool.and_eq_true] at h
    simp only [encS, PyData.canLay0, PyData.canLayAll0, word_ok h.1.1, word_ok h.1.2, lay_seq (lay_encB fl a h.2.1), lay_seq (lay_encB fl b h.2.2), ok_words "same" (by decide), Bool.and_self]
  | .rep n a, h => by
    simp only [wS, Bool.and_eq_true] at h
    simp only [encS, PyData.canLay0, PyData.canLayAll0, lay_seq (lay_encB fl a h.2), ok_words "repeat" (by decide), Bool.and_self]
theorem lay_encB (fl : Bool) : ∀ l : List Stm, wB l = true → PyData.canLayAll0 (encB fl l) = true
  | [], _ => by simp only [encB, PyData.canLayAll0]
  | s :: r, h => by
    simp only [wB, Bool.and_eq_true] at h
    simp only [encB, PyData.canLayAll0, lay_encS fl s h.1, lay_encB fl r h.2, Bool.and_self]
end
mutual
theorem dep_encS (fl : Bool) : ∀ s : Stm, (encS fl s).depth ≤ 2 * dS s + 1
  | .read v k => by simp [encS, PyData.depth, PyData.depthAll]
  | .set v n => by simp [encS, PyData.depth, PyData.depthAll]
  | .copy v u => by simp [encS, PyData.depth, PyData.depthAll]
  | .print v => by simp [encS, PyData.depth, PyData.depthAll]
  | .say n => by simp [encS, PyData.depth, PyData.depthAll]
  | .wait => by simp [encS, PyData.depth, PyData.depthAll]
  | .stop => by simp [encS, PyData.depth, PyData.depthAll]
  | .ite v n a b => by
    have h1 := dep_encB fl a
    have h2 := dep_encB fl b
    simp only [encS, PyData.depth, PyData.depthAll, dep_seq, dS]
    omega
  | .same v u a b => by
    have h1 := dep_encB fl a
    have h2 := dep_encB fl b
    simp only [encS, PyData.depth, PyData.depthAll, dep_seq, dS]
    omega
  | .rep n a => by
    have h1 := dep_encB fl a
    simp only [encS, PyData.depth, PyData.depthAll, dep_seq, dS]
    omega
theorem dep_encB (fl : Bool) : ∀ l : List Stm, PyData.depthAll (encB fl l) + 1 ≤ 2 * dB l
  | [] => by simp [encB, PyData.depthAll, dB]
  | s :: r => by
    have h1 := dep_encS fl s
    have h2 := dep_encB fl r
    simp only [encB, PyData.depthAll, dB]
    omega
end
theorem shaped_encB {fl : Bool} {l : List Stm} (h : wB l = true) (hd : dB l ≤ 4) : SeqAt.shaped (seqD fl (encB fl l)) = true := by
  unfold SeqAt.shaped
  rw [lay_seq (lay_encB fl l h), dep_seq, decide_eq_true (by have := dep_encB fl l; omega)]
  rfl
theorem eqv_encB {fl : Bool} {l : List Stm} (h : wB l = true) : PyData.eqv (seqD fl (encB fl l)) (seqD fl (encB fl l)) = true := SeqAt.eqv_refl _ (lay_seq (lay_encB fl l h))
theorem encB_get {fl : Bool} {l : List Stm} {i : Nat} {d : PyData} (h : (encB fl l)[i]? = some d) : ∃ s, l[i]? = some s ∧ d = encS fl s := by
  rw [encB_map, List.getElem?_map] at h
  obtain ⟨s, hs, e⟩ := Option.map_eq_some_iff.mp h
  exact ⟨s, hs, e.symm⟩
theorem ty_seq {K : PySem.W.Frag} {H0 H : Hp} {a : Addr} {xs : List V} (h : SqL K H0 a xs ∨ SqT K H0 a xs) (e : Same H0 H) : ∃ t, TyX K H (.ref a) t ∧ PySem.W.kitAny K t [.type "list", .type "tuple"] = some true := by
  rcases h with h | h
  · exact ⟨.type "list", tyL (e.seq h), kitAny_cons (b := true) (kit_ty (by decide +kernel)) (fun z => by cases z) (fun _ => rfl)⟩
  · exact ⟨.type "tuple", tyT (smT e h), kitAny_cons (b := false) (kit_ty (by decide +kernel)) (fun _ => kitAny_cons (b := true) (kit_ty (by decide +kernel)) (fun z => by cases z) (fun _ => rfl)) (fun z => by cases z)⟩
theorem strs_inv {K : PySem.W.Frag} {H : Hp} : ∀ {zs : List Str} {vs : List V}, DpAll K H vs (zs.map .str) → vs = zs.map V.str
  | [], _, h => DpAll.nil_inv h
  | z :: zs, _, h => by
    obtain ⟨v, r, rfl, h1, h2⟩ := DpAll.cons_inv h
    rw [Dp.str_inv h1, strs_inv h2]
    rfl
theorem word_read (s : Stm) : s.word = "read" ↔ ∃ v k, s = .read v k := by
  constructor
  · intro h
    cases s <;> first | exact ⟨_, _, rfl⟩ | exact absurd (show _ = (_ : Str) from h) (by simp only [Stm.word]; decide)
  · rintro ⟨v, k, rfl⟩
    rfl
theorem paired_eq {α : Type} {f : α → V} : ∀ {ys : List V} {l : List α}, Paired (fun y a => y = f a) ys l → ys = l.map f
  | _, _, .nil => rfl
  | _, _, .cons h t => by rw [h, paired_eq t]; rfl
theorem atI_nat0 {α : Type} {xs : List α} {i : Nat} {v : α} (h : xs[i]? = some v) : atI xs (0 + (i : Nat) : Int) = some v := by rw [Int.zero_add]; exact atI_nat h
theorem mk_sm {H H' : Hp} {x dx C : Addr} (hx : H x = none) (hdx : H dx = none) (e : ∀ b u, b ≠ x → (upd (upd H dx (.own x)) x (.ins C dx [])) b = some u → H' b = some u) : Same H H' := fun b u z => by
  refine e b u (ne_of_none z hx) ?_
  rw [upd_ne (ne_of_none z hx), upd_ne (ne_of_none z hdx)]
  exact z
theorem mk_in {H : Hp} {x dx C : Addr} (hx : H x = none) (hdx : H dx = none) (hne : dx ≠ x) : Same H (upd (upd H dx (.own x)) x (.ins C dx [])) :=
  smNew (smNew1 hdx _) (by rw [upd_ne hne.symm]; exact hx) _
/-- x[i], x a list or a tuple -/
def rIxA (K : PySem.W.Frag) : R2 := fun x y H Q => ∃ p xs i v, x = .ref p ∧ y = .int i ∧ (SqL K H p xs ∨ SqT K H p xs) ∧ atI xs i = some v ∧ Q v H
theorem ix_any {X : Cx} : IxR X (rIxA X.K) := by
  intro value slice pins s σ H x y v u Q I rx ry h hs
  obtain ⟨p, xs, i, v', e1, e2, h | h, h2, q⟩ := h
  · exact ix_list value slice pins s σ H x y v u Q I rx ry ⟨p, xs, i, v', e1, e2, h, h2, q⟩ hs
  · exact ix_tup value slice pins s σ H x y v u Q I rx ry ⟨p, xs, i, v', e1, e2, h, h2, q⟩ hs
end RM

set_option Elab.async false
set_option linter.all false
set_option maxRecDepth 100000
set_option maxHeartbeats 2000000
namespace RM
open PySem PySem.Spec PyProof.Rows L2
/-! ### own exception classes: what the head tells -/
theorem oexB_ok {K : PySem.W.Frag} {C : Addr} (h : oexB K C = true) : OexC K C := by
  obtain ⟨h0, h⟩ := He.ba h
  obtain ⟨h1, h⟩ := He.ba h
  obtain ⟨h2, h⟩ := He.ba h
  obtain ⟨h3, h4⟩ := He.ba h
  refine ⟨?_, He.eqO_ok h1, of_decide_eq_true h2, of_decide_eq_true h3, h4⟩
  split at h0
  case h_2 => cases h0
  case h_1 t dd cd sl lk =>
    split at h0
    case h_2 => cases h0
    case h_1 c bm k0 k1 k2 k3 n k5 hm hsl =>
      obtain ⟨q1, h0⟩ := He.ba h0
      obtain ⟨q2, h0⟩ := He.ba h0
      obtain ⟨q3, h0⟩ := He.ba h0
      obtain ⟨q4, h0⟩ := He.ba h0
      obtain ⟨q5, q6⟩ := He.ba h0
      have e1 := of_decide_eq_true q1
      have e2 := of_decide_eq_true q2
      have e3 := of_decide_eq_true q3
      have e4 : cd.hasDel = false := by simpa using q4
      obtain ⟨l⟩ := sl
      have e6 : l = [k0, k1, k2, k3, some (.builtin n), k5] := hsl
      cases cd
      simp only at hm e4 q5
      subst hm e1 e2 e3 e4 q5 e6
      exact ⟨_, _, _, _, _, _, _, _, _, _, _, _, _, _, _, lk, q6⟩
/-- X(), X an own exception class without own __init__ -/
theorem pmk_exc0 {X : Cx} {x : Str} {p pos : Pos} (q : PySem.W.excIn X.K (He.ga X.K x) He.veBase "ValueError.__new__" = true ∧ PySem.W.keepIn X.K (.ref (He.ga X.K x)) = true ∧ PySem.W.subIn X.K (.ref (He.ga X.K x)) (.type "BaseException") = some true ∧
      PySem.W.typeIn X.K (.ref (He.ga X.K x)) = some (.type "type")) (gC : X.mg x = some (.ref (He.ga X.K x))) (hg : Gl X x := by rfl) (hdb : (x == ("__debug__" : Str)) = false := by decide) :
    PMk X (.Call (.Name x p) [] [] pos) (fun _ H Q => Q (.ref (He.ga X.K x)) none H) := by
  obtain ⟨q1, q2, q3, q4⟩ := q
  intro pins s σ H Q I h
  refine wpAny_Call_Name_kw (ld_glob I hg gC ?_ hdb)
  refine PySem.W.callWith_K0 I.kIn q2 ?_
  obtain ⟨bm, N, nm, qn, bs, hd, sn, sub, ab, col, dd, k0, k1, k2, k3, k5, mN, hC, hN, hni, T⟩ := exc_obj I.kIn q1
  exact wpAny_call_exc_subT F.excBase_ValueError T hC hN hni (fun h' e hm => mk_of I hm (raises_own q3 q4) h (I.hok.gone hm.new)) (by show 0 ≤ sizeLine; exact Nat.zero_le _)
/-! ### defs that let exceptions out -/
section
variable {P : Program} {w : World} {K : PySem.W.Frag} {mg : Str → Option Value} {base : Heap} {k : Nat} {x m : Str} {C : Addr} {sp : Sp}
/-- the body's form -/
def BodyX (P : Program) (w : World) (K : PySem.W.Frag) (mg : Str → Option Value) (base : Heap) (N : List Str) (qual : Str) (st : Stmt) (f : Addr) (k : Nat) (sp : Sp) : Prop :=
  ∀ (cdv : Value) (A : Around) (outer : List Env) (s : Shared) (H : Hp) (vs : List V) (Q : VK) (E : XK), Room k (A.deeper (envOfC qual (defScope st) s.heap.objs.size f cdv)) → sp vs H Q E →
    ∃ t, PSs (cxOf (L2.CX P w) P w K mg base N qual (defScope st) f cdv A outer s H E) (defBody st) t ∧ t { nx := fun _ H' => Q .non H', rt := Q } (start N vs) H
theorem cal_X {st : Stmt} {f : Addr} {N ps : List Str} (F : ∃ fd, FunD K x x (defArgs st) (defBody st) (defScope st) [] [] f fd) (hm : mg x = some (.ref f)) (S : FnScope N ps (defScope st))
    (hb : ∀ (kV doc pm : Value) (an : Option Addr) (cdv ct : Value) (us : List Value), us.length = ps.length → bindArgs (PySem.W.fnOf x x (defArgs st) (defBody st) (defScope st) .none kV doc pm an cdv ct) ⟨us, []⟩ = pure (ps.zip us))
    (len : ∀ vs H Q E, sp vs H Q E → vs.length = ps.length) (h : BodyX P w K mg base N x st f k sp) : Cal P w K mg base (L2.CX P w) (k + 1) x sp :=
  let ⟨fd, F⟩ := F
  ⟨f, fd, ps, F.ok S len h, hm, F.kp, F.bindsN hb⟩
theorem mak_X {qual : Str} {st : Stmt} {f : Addr} {N ps : List Str} (F : ∃ fd, FunD K "__init__" qual (defArgs st) (defBody st) (defScope st) [] [] f fd) (M : Mk K C f) (hm : mg x = some (.ref C)) (S : FnScope N ps (defScope st))
    (hb : ∀ (kV doc pm : Value) (an : Option Addr) (cdv ct : Value) (us : List Value), us.length = ps.length → bindArgs (PySem.W.fnOf "__init__" qual (defArgs st) (defBody st) (defScope st) .none kV doc pm an cdv ct) ⟨us, []⟩ = pure (ps.zip us))
    (len : ∀ vs H Q E, sp vs H Q E → vs.length = ps.length) (h : BodyX P w K mg base N qual st f k sp) : Mak P w K mg base (L2.CX P w) (k + 1) x C sp :=
  let ⟨fd, F⟩ := F
  ⟨f, fd, ps, M, F.ok S len h, hm, F.bindsN hb⟩
theorem calX_never {x : Str} {st : Stmt} {f : Addr} {ps : List Str} {sp : Sp} {k : Nat} (F : ∃ fd, FunD K x x (defArgs st) (defBody st) (defScope st) [] [] f fd) (hm : mg x = some (.ref f))
    (hb : ∀ (kV doc pm : Value) (an : Option Addr) (cdv ct : Value) (us : List Value), us.length = ps.length → bindArgs (PySem.W.fnOf x x (defArgs st) (defBody st) (defScope st) .none kV doc pm an cdv ct) ⟨us, []⟩ = pure (ps.zip us))
    (no : ∀ vs H Q E, ¬ sp vs H Q E) : Cal P w K mg base (L2.CX P w) k x sp :=
  let ⟨fd, F⟩ := F
  ⟨f, fd, ps, ⟨fun vs H Q E h => absurd h (no vs H Q E), fun A outer s H args us vs Q E _ _ _ _ h => absurd h (no vs H Q E)⟩, hm, F.kp, F.bindsN hb⟩
/-- an own exception class: its name, its __init__ -/
def Exo (P : Program) (w : World) (K : PySem.W.Frag) (mg : Str → Option Value) (base : Heap) (k : Nat) (x : Str) (C : Addr) (sp : Sp) : Prop :=
  ∃ (f : Addr) (fd : FuncData) (ps : List Str), OexC K C ∧ Meth K C "__init__" f ∧ FnOk P w K mg base CX0 k f fd ps sp ∧ mg x = some (.ref C) ∧ Binds K fd ps []
end
section
variable {X : Cx} {W : WX} {k j : Nat} {C : Addr} {x m : Str} {sp : Sp} {E : L2.St → XK} {p pos apos : Pos} {e o : Expr} {es : List Expr} {ta : TE} {t : TA}
/-- f(e, ..), f of a promise with exceptions -/
theorem pcX (tk : Takes X W) (c : Cal X.prog X.w X.K X.mg X.base (L2.CX X.prog X.w) k x sp) (hr : Room j X.A) (ha : PA X (e :: es) t) (hk : k ≤ j := by omega) (hg : Gl X x := by rfl)
    (hpl : (backTo pos (starEach es X.env)).any (·.1) = false := by rfl) (he : starEach (e :: es) X.env = (false, eval e X.env) :: starEach es X.env := by rfl) (hdb : (x == ("__debug__" : Str)) = false := by decide) :
    PE X (.Call (.Name x p) (e :: es) [] pos) (tCallS sp (WE W) t) := by
  obtain ⟨f, fd, ps, F, hm, kp, b⟩ := c
  exact pe_callS F (hr.mono hk) hg hm kp b (fun σ => passAt tk σ) ha hdb he hpl
/-- C(e, ..): a new instance; E at the slots -/
def tMakeS (C : Addr) (sp : Sp) (E : L2.St → XK) (t : TA) : TE := fun σ H Q => t σ H fun vs H1 => ∀ x dx, H1 x = none → H1 dx = none → dx ≠ x →
  sp (.ref x :: vs) (upd (upd H1 dx (.own x)) x (.ins C dx [])) (fun v H2 => v = .non ∧ Q (.ref x) H2) (E σ)
theorem pmkX (tk : Takes X W) (c : Mak X.prog X.w X.K X.mg X.base (L2.CX X.prog X.w) k x C sp) (hr : Room j X.A) (ha : PA X (e :: es) t) (hk : k + 1 ≤ j := by omega) (hg : Gl X x := by rfl)
    (hpl : (backTo pos (starEach es X.env)).any (·.1) = false := by rfl) (he : starEach (e :: es) X.env = (false, eval e X.env) :: starEach es X.env := by rfl) (hdb : (x == ("__debug__" : Str)) = false := by decide) :
    PE X (.Call (.Name x p) (e :: es) [] pos) (tMakeS C sp (WE W) t) := by
  obtain ⟨f, fd, ps, M, F, hm, b⟩ := c
  constructor
  intro pins s σ H Q I h
  refine wpAny_Call_Name_kw (ld_glob I hg hm ?_ hdb)
  refine PySem.W.callWith_K (h₀ := X.base) I.ok.mod.kin M.kp (thn (ha.run pos pins s σ H _ I h) ?_) he hpl
  rintro us s1 ⟨vs, H1, I1, r, q⟩
  refine ⟨I1.kIn, ?_⟩
  have f1 : H1 (s1.heap.objs.size + 1) = none := I1.hok.fresh (Nat.le_succ _)
  have f2 : H1 s1.heap.objs.size = none := I1.hok.fresh (Nat.le_refl _)
  have q1 := q _ _ f1 f2 (Nat.ne_of_lt (Nat.lt_succ_self _))
  have J := Inv.made (C := C) I1
  have rr : Vals (V.ref (s1.heap.objs.size + 1) :: vs) (Value.ref (s1.heap.objs.size + 1) :: us) := .cons rfl r
  have ll : (Value.ref (s1.heap.objs.size + 1) :: us).length = ps.length := rr.length.symm.trans (F.len _ _ _ _ q1)
  have bb := b _ (Value.ref (s1.heap.objs.size + 1) :: us) J.kIn (by rw [List.append_nil]; exact ll)
  rw [List.append_nil] at bb
  refine wpAny_call (make_map (f := f) I1.kIn M.makes M.init (beq_iff_eq.mp M.fn) (codeAny_mono (F.run _ X.stack _ _ ⟨Value.ref (s1.heap.objs.size + 1) :: us, []⟩ _ _ _ _ ((hr.mono hk).make C us []) (J.env0.make C us []) bb rr q1) ?_))
  intro r2 s2 z
  match r2, z with
  | .error y, z => exact passAt tk σ pins _ _ y s2 J z
  | .ok (.ret y), z =>
    obtain ⟨v, H2, J2, rv, rfl, q2⟩ := J.after z
    exact ⟨rv, V.ref (s1.heap.objs.size + 1), H2, J2, rfl, q2⟩
/-- raise C(e, ..), C with its own __init__ -/
theorem ps_raiseX {pos2 : Pos} (tk : Takes X W) (c : Exo X.prog X.w X.K X.mg X.base k x C sp) (hr : Room j X.A) (ha : PA X (e :: es) t) (hc : X.calm = true := by rfl) (hk : k + 1 ≤ j := by omega) (hg : Gl X x := by rfl)
    (hpl : (backTo pos (starEach es X.env)).any (·.1) = false := by rfl) (he : starEach (e :: es) X.env = (false, eval e X.env) :: starEach es X.env := by rfl) (hdb : (x == ("__debug__" : Str)) = false := by decide) :
    PS X (.Raise (some (.Call (.Name x p) (e :: es) [] pos)) none pos2) (fun _ σ H => tMkO C sp [] t σ H fun cls d H' => W cls d σ H') := by
  obtain ⟨f, fd, ps, T, M, F, hm, b⟩ := c
  exact ps_raise hc tk (pmk_oex T M.at_ (beq_iff_eq.mp M.fn) F (hr.mono hk) b .nil pass0 hg hm ha hdb he hpl)
end
/-! ### except clauses, each with or without a name -/
/-- an exception stands caught at the foot of the try -/
def Caught (X : Cx) (pins : List (Addr × Obj)) (σ : L2.St) (H : Hp) (cls : Value) (d : Option Addr) (a : Addr) (s : Shared) : Prop :=
  H a = none ∧ ∃ (B : Heap) (sI : Shared), Inv X pins σ H sI ∧ (∀ b o, sI.heap.get? b = some o → b ∉ frs X.stack → B.get? b = some o) ∧ sI.heap.UpToSlots s.heap ∧ HandSPX.FlyingZ B X.stack a (Zc cls d) s.heap ∧ s.os = sI.os ∧ AllBare s.gens
section
variable {X : Cx} {pins : List (Addr × Obj)} {σ : L2.St} {H : Hp} {cls : Value} {d : Option Addr} {a : Addr} {s : Shared}
theorem Caught.inv (c : Caught X pins σ H cls d a s) : Inv X pins σ H s :=
  let ⟨_, _, _, I, nb, up, fl, os, ag⟩ := c; I.landed nb fl.1 up os ag
theorem Caught.obj (c : Caught X pins σ H cls d a s) : ∃ oe vs, s.heap.get? a = some oe ∧ Zc cls d oe ∧ oe.data = .fields vs :=
  let ⟨_, _, _, _, _, _, fl, _, _⟩ := c; fl.there
theorem Caught.far (c : Caught X pins σ H cls d a s) : a ∉ frs X.stack := by
  obtain ⟨_, _, _, _, _, _, fl, _, _⟩ := c
  obtain ⟨oe, vs, e, _, dd⟩ := fl.there
  intro hm
  obtain ⟨_, o, e', hnf⟩ := fl.2.2.1.mem hm
  rw [e] at e'
  exact hnf vs (Option.some.inj e' ▸ dd)
theorem Caught.suite (c : Caught X pins σ H cls d a s) (hs : X.stack = X.env :: X.outer) (hf : X.env.frame = some X.env.locals) :
    ∃ oe, (Zc cls d oe ∧ ∃ vs, oe.data = .fields vs) ∧ s.heap.get? a = some oe ∧ Inv (X.suite a ((a, oe) :: (X.pn ++ pins))) [] σ H s := by
  obtain ⟨oe, vs, e, z, dd⟩ := c.obj
  have nf := c.far
  rw [hs] at nf
  refine ⟨oe, ⟨z, vs, dd⟩, e, c.inv.suite e dd c.1 (fun h => nf ?_) fun h => nf ?_⟩
  · exact List.mem_filterMap.mpr ⟨X.env, List.mem_cons_self, by rw [hf, h]⟩
  · obtain ⟨u, hu, q⟩ := List.mem_filterMap.mp h
    exact List.mem_filterMap.mpr ⟨u, List.mem_cons_of_mem _ hu, q⟩
theorem Caught.again {M : Model} {A : Around} {Q : Unit → Shared → Prop} {E : Value → Shared → Prop} (c : Caught X pins σ H cls d a s) (h : ∀ s', Caught X pins σ H cls d a s' → Q () s') : wpAny M A (setFlight (.ref a) none) Q E s := by
  obtain ⟨na, B, sI, I, nb, up, fl, os, ag⟩ := c
  exact HandSPX.lands_againZ fl fun h' fl' up' => h _ ⟨na, B, sI, I, nb, up.trans up', fl', os, ag⟩
/-- what a row of clauses wishes, read at the ends -/
def Hds (X : Cx) (hds : List ExceptHandler) (wv : Ends → WX) : Prop :=
  ∀ (pins : List (Addr × Obj)) (D : Ends) (σ : L2.St) (H : Hp) (cls : Value) (d : Option Addr) (a : Addr) (s : Shared), Caught X pins σ H cls d a s → wv D cls d σ H → wpAny (model X.prog X.w) X.A (handleBy (.ref a) X.env hds) (SP X pins D) X.xe s
theorem hds_nil {W : WX} (tk : Takes X W) (hf : X.env.frame = some X.env.locals := by rfl) : Hds X [] (fun _ => W) := by
  intro pins D σ H cls d a s c w
  refine wpAny_handleBy_nil ?_
  obtain ⟨na, B, sI, I, nb, up, fl, os, ag⟩ := c
  obtain ⟨_, _, _, oe, vs, T, _, _, e, _, dd, h1, _⟩ := id fl
  unfold PySem.passOn
  refine wpAny_bind (wpAny_field e dd h1 ?_)
  rw [if_neg (by simp)]
  have out : wpAny (model X.prog X.w) X.A (setFlight (.ref a) X.env.frame) (fun _ s' => wpAny (model X.prog X.w) X.A (throw (.ref a) : Sem Flow) (SP X pins D) X.xe s') X.xe s := by
    rw [hf]
    exact HandSPX.setFlight_upZ fl fun h' hh up' => wpAny_throw (tk _ _ ⟨a, B, sI, pins, σ, H, cls, d, rfl, I, nb, up.trans up', .inr (.inr hh), na, os, ag, w⟩)
  first
    | exact wpAny_bind (wpAny_pure (wpAny_bind out))
    | exact wpAny_bind out
/-- the clause's class is looked at -/
theorem hd_test {x : Str} {np : Pos} {c : Value} {b : Bool} {Q : Bool → Shared → Prop} {E : Value → Shared → Prop} {R : Result → Shared → Prop} {pos' : Pos} (hc : Names X x c) (k : Caught X pins σ H cls d a s) (hs : X.stack = X.env :: X.outer) (hf : X.env.frame = some X.env.locals)
    (hb : PySem.W.exmOne X.K cls c = some b) (h : R (.ok (if b = true then .brk else .next)) s) : codeAny (model X.prog X.w) (X.A.mark (some (.ref a))) (.handlers (.ref a) [.ExceptHandler (some (.Name x np)) none [] pos'] X.env) R s := by
  obtain ⟨oe, ⟨z, _⟩, e, S⟩ := k.suite hs hf
  refine codeAny_handlers_test ?_
  have tyl : PySem.W.Looks (model X.prog X.w) s.heap (typeOf (.ref a)) cls := fun A Q E s k q => wpAny_typeOf_ref (k _ _ e) (by rw [z.1]; exact q)
  have fit := (PySem.W.exm_one (M := model X.prog X.w) k.inv.kIn tyl hb).here (A := X.A.mark (some (.ref a))) (E := notedBy (model X.prog X.w) (X.A.mark (some (.ref a))) X.env fun x s₁ => R (.error x) s₁)
    (Q := fun b s₂ => R (.ok (if b then .brk else .next)) s₂) (s := s) h
  obtain ⟨hg, hd, hm | ⟨hm, hv, hn⟩⟩ := hc
  · exact ld_glob S hg hm fit hd
  · exact ld_blt S hg hm hv fit hn hd
/-- except x: suite -/
def wCl (K : PySem.W.Frag) (c : Value) (ts : Addr → Value → Option Addr → L2.TS) (wr : Ends → WX) : Ends → WX := fun D cls d σ H =>
  ∃ b, PySem.W.exmOne K cls c = some b ∧ (if b = true then ∀ a, H a = none → ts a cls d D σ H else wr D cls d σ H)
/-- the slot of the clause's name is emptied behind -/
def Ends.gone (i : Nat) (D : Ends) : Ends := { nx := fun σ H => D.nx (σ.set i none) H, rt := D.rt, bk := fun σ H => D.bk (σ.set i none) H, ct := fun σ H => D.ct (σ.set i none) H }
/-- except x as n: suite -/
def wClA (K : PySem.W.Frag) (c : Value) (i : Nat) (ts : Addr → Value → Option Addr → L2.TS) (wr : Ends → WX) : Ends → WX := fun D cls d σ H =>
  ∃ b, PySem.W.exmOne K cls c = some b ∧ (if b = true then ∀ a, H a = none → ts a cls d (Ends.gone i D) (σ.set i (some (.ref a))) H else wr D cls d σ H)
theorem hds_cl {x : Str} {np pos' : Pos} {c : Value} {ts : Addr → Value → Option Addr → L2.TS} {b₀ : Stmt} {su : List Stmt} {hds : List ExceptHandler} {wr : Ends → WX} (hc : Names X x c)
    (hsu : ∀ (a : Addr) (oe : Obj) (cls : Value) (d : Option Addr) (pn : List (Addr × Obj)), Zc cls d oe → (∃ vs, oe.data = .fields vs) → PSs (X.suite a ((a, oe) :: pn)) (b₀ :: su) (ts a cls d)) (r : Hds X hds wr)
    (ok : X.Ok → True := fun _ => trivial) (hs : X.stack = X.env :: X.outer := by rfl) (hf : X.env.frame = some X.env.locals := by rfl) : Hds X (.ExceptHandler (some (.Name x np)) none (b₀ :: su) pos' :: hds) (wCl X.K c ts wr) := by
  rintro pins D σ H cls d a s k ⟨b, hb, w⟩
  refine wpAny_handleBy_cons (hd_test (Q := fun _ _ => True) (E := fun _ _ => True) hc k hs hf hb ?_) (fun q => by cases q)
  cases b with
  | false => exact r pins D σ H cls d a s k w
  | true =>
    refine codeAny_handlers_suite (k.again fun s1 k1 => ?_)
    obtain ⟨oe, ⟨z, dd⟩, _, S⟩ := k1.suite hs hf
    refine wpAny_mono ((hsu a oe cls d (X.pn ++ pins) z dd).run [] s1 σ H _ S (w a k.1)) (fun f s2 q => ?_) (fun _ _ q => False.elim q)
    have back : ∀ {σ2 H2}, Inv (X.suite a ((a, oe) :: (X.pn ++ pins))) [] σ2 H2 s2 → Inv X pins σ2 H2 s2 := fun J => J.unsuite k.inv.ok
    match f, q with
    | .ret u, ⟨v, σ2, H2, J, q⟩ => exact ⟨v, σ2, H2, back J, q⟩
    | .next, ⟨σ2, H2, J, q⟩ => exact ⟨σ2, H2, back J, q⟩
    | .brk, ⟨σ2, H2, J, q⟩ => exact ⟨σ2, H2, back J, q⟩
    | .cont, ⟨σ2, H2, J, q⟩ => exact ⟨σ2, H2, back J, q⟩
theorem hds_as {x n : Str} {np pos' : Pos} {c : Value} {i : Nat} {ts : Addr → Value → Option Addr → L2.TS} {b₀ : Stmt} {su : List Stmt} {hds : List ExceptHandler} {wr : Ends → WX} (hN : X.N.Nodup) (hi : X.N[i]? = some n) (hln : X.env.kindOf n = some .local) (hc : Names X x c)
    (hsu : ∀ (a : Addr) (oe : Obj) (cls : Value) (d : Option Addr) (pn : List (Addr × Obj)), Zc cls d oe → (∃ vs, oe.data = .fields vs) → PSs (X.suite a ((a, oe) :: pn)) (b₀ :: su) (ts a cls d)) (r : Hds X hds wr)
    (hs : X.stack = X.env :: X.outer := by rfl) (hf : X.env.frame = some X.env.locals := by rfl) : Hds X (.ExceptHandler (some (.Name x np)) (some n) (b₀ :: su) pos' :: hds) (wClA X.K c i ts wr) := by
  rintro pins D σ H cls d a s k ⟨b, hb, w⟩
  refine wpAny_handleBy_cons (hd_test (Q := fun _ _ => True) (E := fun _ _ => True) hc k hs hf hb ?_) (fun q => by cases q)
  cases b with
  | false => exact r pins D σ H cls d a s k w
  | true =>
    refine codeAny_handlers_suite_as (k.again fun s1 k1 => ?_)
    obtain ⟨oe, ⟨z, dd⟩, _, S⟩ := k1.suite hs hf
    refine store_ok (X := X.suite a ((a, oe) :: (X.pn ++ pins))) (v := .ref a) S hN hi (.inl hln) rfl (fun s2 S2 => ?_) (.inr hln)
    refine wpAny_mono ((hsu a oe cls d (X.pn ++ pins) z dd).run [] s2 _ H _ S2 (w a k.1)) (fun f s3 q => ?_) (fun _ _ q => False.elim q)
    have back : ∀ {σ3 : L2.St} {H3 : Hp} {Q : Unit → Shared → Prop}, Inv (X.suite a ((a, oe) :: (X.pn ++ pins))) [] σ3 H3 s3 → (∀ s4, Inv X pins (σ3.set i none) H3 s4 → Q () s4) →
      wpAny (model X.prog X.w) X.A (do bindName X.env n .none; unbindBehindTheSuite X.env n pos') Q X.xe s3 := fun J g => gone_ok (J.unsuite k.inv.ok) hN hi hln g
    match f, q with
    | .ret u, ⟨v, σ3, H3, J, q⟩ => exact back J fun s4 J4 => ⟨v, _, H3, J4, q⟩
    | .next, ⟨σ3, H3, J, q⟩ => exact back J fun s4 J4 => ⟨_, H3, J4, q⟩
    | .brk, ⟨σ3, H3, J, q⟩ => exact back J fun s4 J4 => ⟨_, H3, J4, q⟩
    | .cont, ⟨σ3, H3, J, q⟩ => exact back J fun s4 J4 => ⟨_, H3, J4, q⟩
/-- try: body / the clauses -/
theorem ps_tryG {body : List Stmt} {h₀ : ExceptHandler} {hds : List ExceptHandler} {wv : Ends → WX} {tb : WX → L2.TS} {pos : Pos}
    (hb : ∀ (W : WX) (pn : List (Addr × Obj)) (xe : Value → Shared → Prop), Takes (X.tr pn xe) W → PSs (X.tr pn xe) body (tb W)) (hh : Hds X (h₀ :: hds) wv)
    (hs : X.stack = X.env :: X.outer := by rfl) (hf : X.env.frame = some X.env.locals := by rfl) : PS X (.Try body (h₀ :: hds) [] [] pos) (fun D σ H => tb (wv D) D σ H) := by
  constructor
  intro pins s σ H D I h
  have ok := I.ok
  have hfr : X.A.frames = some (X.env :: X.outer) := ok.frames.trans (by rw [hs])
  let xe2 : Value → Shared → Prop := fun e s₁ => wpAny (model X.prog X.w) X.A (noteFrame e X.env) (fun _ s₂ => wpAny (model X.prog X.w) X.A (setFlight e none) (fun _ s₃ =>
    wpAny (model X.prog X.w) X.A (handleBy e X.env (h₀ :: hds)) (SP X pins D) X.xe s₃) X.xe s₂) X.xe s₁
  have tk : Takes (X.tr (X.pn ++ pins) xe2) (wv D) := by
    rintro u s' ⟨a, B, sI, pins', σ', H', cls, d, rfl, J, nb, up, sky, na, os, ag, w⟩
    have sky2 : Sky B (X.env :: X.outer) a (Zc cls d) X.env.locals s'.heap := hs ▸ sky
    refine Sky.land Zc.steady hfr hf sky2 fun h3 fl up3 => ?_
    exact hh pins D σ' H' cls d a { s' with heap := h3 } ⟨na, B, sI, J.ofTry ok, nb, up.trans up3, hs ▸ fl, os, ag⟩ w
  refine wpAny_Try_except (wpAny_mono ((hb (wv D) _ _ tk).run [] s σ H D (I.toTry _) h) (fun f s1 q => ?_) (fun _ _ q => q))
  match f, q with
  | .next, ⟨σ2, H2, J, q⟩ => exact wpAny_execs_nil ⟨σ2, H2, J.ofTry ok, q⟩
  | .ret u, ⟨v, σ2, H2, J, q⟩ => exact ⟨v, σ2, H2, J.ofTry ok, q⟩
  | .brk, ⟨σ2, H2, J, q⟩ => exact ⟨σ2, H2, J.ofTry ok, q⟩
  | .cont, ⟨σ2, H2, J, q⟩ => exact ⟨σ2, H2, J.ofTry ok, q⟩
end
end RM

set_option Elab.async false
set_option linter.all false
set_option maxRecDepth 100000
set_option maxHeartbeats 2000000
/-! sets of texts that can be walked: which texts, not their order -/
namespace RM
open PySem PySem.Spec PyProof.Rows L2 PySem.Froz
/-! ### the table: it rises, and its order is told -/
def Wk (w : World) (t : SetTable) : Prop := Ris t.place.toList ∧ (w.params.followText "set-order" = true ∨ t.led = true)
theorem Wk.of {w : World} {t u : SetTable} (k : Wk w t) (h : Ris t.place.toList → Ris u.place.toList) (e : u.led = t.led) : Wk w u := ⟨h k.1, k.2.imp_right fun l => by rw [e, l]⟩
theorem Wk.tail {w : World} {ep : Nat} {es : Array (Int × Value)} {t : SetTable} {b : Bool} (k : Wk w t) : Wk w (tailTx ep es t b).2.2 := by
  by_cases c : (!b && t.tooFull) = true
  · rw [tailTx, if_pos c]
    exact k.of (fun _ => relayAll_ris t es _) (relayAll_led t es _)
  · rw [tailTx, if_neg c]
    exact k
theorem Wk.add {w : World} {z : Int} {v : Value} {D : SD} (k : Wk w D.2.2) : Wk w (addTx z v D).2.2 := by
  rw [addTx]
  have k1 : Wk w (layNew D.2.2 D.1 z v).2.1 := k.of (layNew_ris D.2.2 D.1 z v) (layNew_led D.2.2 D.1 z v)
  by_cases c : (layNew D.2.2 D.1 z v).2.1.plain = true
  · rw [if_pos c]
    exact Wk.tail (t := { (layNew D.2.2 D.1 z v).2.1 with plain := false }) ⟨k1.1, k1.2⟩
  · rw [if_neg c]
    exact k1.tail
/-! ### what is known of such a set -/
structure Txs (P : Program) (w : World) (D : SD) (l : List Str) : Prop where
  ok : TxOk P w D l
  nd : l.Nodup
  wk : Wk w D.2.2
  few : l.length < scanBound
/-- at a stands a set of the texts l -/
def SX (P : Program) (w : World) (h : Heap) (a : Addr) (l : List Str) : Prop := ∃ D : SD, h.get? a = some (sObj "set" D) ∧ Txs P w D l
/-- an empty set as the world makes it -/
abbrev bareX (w : World) : Obj := { cls := .type "set", dict := none, data := .set #[] 0 (.fresh 0 0 (!w.params.followText "set-order")) }
section
variable {P : Program} {w : World} {h h' : Heap} {a : Addr} {l : List Str}
theorem SX.at (R : SX P w h a l) (k : ∀ o, h.get? a = some o → h'.get? a = some o) : SX P w h' a l := R.imp fun _ q => ⟨k _ q.1, q.2⟩
theorem SX.some (R : SX P w h a l) : ∃ o, h.get? a = some o := let ⟨_, e, _⟩ := R; ⟨_, e⟩
theorem sx_fresh (e : h.get? a = some (bareX w)) : SX P w h a [] := by
  refine ⟨(#[], 0, .fresh 0 0 (!w.params.followText "set-order")), e, .nil rfl, List.nodup_nil, ⟨List.Pairwise.nil, ?_⟩, by decide⟩
  by_cases c : w.params.followText "set-order" = true
  · exact .inl c
  · exact .inr (by show (!w.params.followText "set-order") = true; rw [Bool.not_eq_true] at c; rw [c]; rfl)
end
/-- k put to l, if it isn't there -/
def insX (k : Str) (l : List Str) : List Str := if k ∈ l then l else k :: l
theorem insX_mem {k x : Str} {l : List Str} : x ∈ insX k l ↔ x = k ∨ x ∈ l := by
  rw [insX]
  by_cases c : k ∈ l
  · rw [if_pos c]
    exact ⟨Or.inr, fun z => z.elim (fun e => e ▸ c) id⟩
  · rw [if_neg c, List.mem_cons]
theorem insX_len {k : Str} {l : List Str} : (insX k l).length ≤ l.length + 1 := by
  rw [insX]
  by_cases c : k ∈ l
  · rw [if_pos c]; omega
  · rw [if_neg c]; exact Nat.le_refl _
/-! ### a text put in -/
section
variable {P : Program} {w : World} {A : Around} {E : Value → Shared → Prop} {s : Shared} {a : Addr} {l : List Str} {k : Str} {u : Tok}
theorem texts_at {D : SD} (F : TxOk P w D l) (hk : k ∈ l) : ∃ j, List.findIdx? (fun e => (strKind P w).is k e.2) D.1.toList = some j := by
  obtain ⟨e, he, z⟩ := (F.mem k).mp hk
  rw [← Option.isSome_iff_exists, List.findIdx?_isSome, List.any_eq_true]
  exact ⟨e, he, z⟩
/-- one that is there already: nothing happens -/
theorem again_x {D : SD} {Q : Bool → Shared → Prop} (e : s.heap.get? a = some (sObj "set" D)) (F : Txs P w D l) (hk : k ∈ l) (q : Q false s) : wpAny (model P w) A (setAddHashed a (.str k u) (hashStr w k)) Q E s := by
  obtain ⟨j, hj⟩ := texts_at F.ok hk
  have few : D.1.size < scanBound := by rw [F.ok.sz]; exact F.few
  unfold setAddHashed setAddHashedIn
  refine wpAny_holding (wpAny_bind (wpAny_setState_of (es := D.1) (ep := D.2.1) (t := D.2.2) e rfl F.ok.fit ?_))
  dsimp only
  rw [byScan_of (knd := strKind P w) (x := Value.str k u) rfl few F.ok.el]
  rw [if_pos rfl]
  unfold setAddByScan
  refine wpAny_bind (wpAny_bind (wpAny_rule (wpAny_bind (wpAny_setScan_of (knd := strKind P w) (k := k) (es := D.1) (ep := D.2.1) (t := D.2.2) (is_str k u) e rfl F.ok.fit F.ok.el ?_))))
  rw [hj]
  exact wpAny_pure (wpAny_pure q)
/-- setAdd's step behind the hash -/
theorem put_x {Q : Bool → Shared → Prop} (R : SX P w s.heap a l) (room : l.length + 1 < scanBound) (q : ∀ b h', Heap.SameBut a s.heap h' → SX P w h' a (insX k l) → Q b { s with heap := h' }) :
    wpAny (model P w) A (setAddHashed a (.str k u) (hashStr w k)) Q E s := by
  obtain ⟨D, e, F⟩ := id R
  rw [insX] at q
  by_cases c : k ∈ l
  · rw [if_pos c] at q
    exact again_x e F c (q false s.heap (Heap.SameBut.refl a _) R)
  · rw [if_neg c] at q
    refine add_x e F.ok c room (q true _ (Heap.SameBut.update _ _ _) ⟨_, get_upd _ e rfl, add_ok u F.ok, List.nodup_cons.mpr ⟨c, F.nd⟩, F.wk.add, ?_⟩)
    rw [List.length_cons]
    exact room
/-- the whole of setAdd -/
theorem setAdd_x {Q : Bool → Shared → Prop} (R : SX P w s.heap a l) (room : l.length + 1 < scanBound) (q : ∀ b h', Heap.SameBut a s.heap h' → SX P w h' a (insX k l) → Q b { s with heap := h', toks := s.toks + 1 }) :
    wpAny (model P w) A (setAdd a (.str k u)) Q E s := by
  unfold setAdd
  exact wpAny_holding (wpAny_bind ((strKind P w).pyHash (is_str k u) (put_x (s := { s with toks := s.toks + 1 }) R room q)))
/-- s.add(text) -/
theorem call_add_x {Q : Value → Shared → Prop} (R : SX P w s.heap a l) (room : l.length + 1 < scanBound) (q : ∀ h', Heap.SameBut a s.heap h' → SX P w h' a (insX k l) → Q .none { s with heap := h', toks := s.toks + 1 }) :
    wpAny (model P w) A (call (.builtin "set.add") [.ref a, .str k u]) Q E s := by
  have ty : s.TypeIs (.ref a) "set" := let ⟨_, e, _⟩ := R; ⟨_, e, rfl⟩
  refine wpAny_call_entry F.slot_set_add ty F.entry_set_add ?_ (F.args_set_add_2 _ _)
  show wpAny _ _ (setAdd a (.str k u) >>= fun _ => ret Value.none) _ _ s
  exact wpAny_bind (setAdd_x R room fun _ h' sb r => wpAny_pure ⟨_, rfl, q h' sb r⟩)
end
/-! ### as a tracked thing -/
def SetX (P : Program) (w : World) (a : Addr) (l : List Str) : HO := .ext fun h => SX P w h a l
theorem setX_new {P : Program} {w : World} {H : Hp} {h : Heap} {a : Addr} {l : List Str} (R : SX P w h a l) : ObjOk P w H h a (SetX P w a l) := ⟨R, R.some, fun _ _ p k => SX.at p k⟩
section
variable {X : Cx} {pins : List (Addr × Obj)} {σ : L2.St} {H : Hp} {s : Shared}
theorem Txs.of {a : Addr} {l : List Str} (I : Inv X pins σ H s) (e : H a = some (SetX X.prog X.w a l)) : SX X.prog X.w s.heap a l := (I.hok a _ e).1
theorem addX_ok {E : Value → Shared → Prop} {A : Around} {D : Addr} {l : List Str} {k : Str} {u : Tok} {Q : Value → Shared → Prop} (I : Inv X pins σ H s) (hD : H D = some (SetX X.prog X.w D l)) (room : l.length + 1 < scanBound)
    (q : ∀ s', Inv X pins σ (upd H D (SetX X.prog X.w D (insX k l))) s' → Q .none s') : wpAny (model X.prog X.w) A (call (.builtin "set.add") [.ref D, .str k u]) Q E s :=
  call_add_x (Txs.of I hD) room fun _ sb R => q _ (I.write (by rw [hD]; trivial) (.inl rfl) (fun b o ne e => by rw [sb.2 b ne]; exact e) R.some (setX_new R))
end
end RM

set_option Elab.async false
set_option linter.all false
set_option maxRecDepth 100000
set_option maxHeartbeats 4000000
/-! set comprehensions, clause by clause: one theorem of a clause's loop, whatever stands behind its tests -/
namespace RM
open PySem PySem.Spec PyProof.Rows L2 PpSet
/-- the slots that the block keeps are known still -/
def Kept (σ σ' : L2.St) : Prop := ∀ (j : Nat) v, σ[j]? = some (some v) → σ'[j]? = some (some v)
theorem kept_wipe (σ : L2.St) (vs : List Nat) : Kept (wipe σ vs) σ := fun _ _ e => (wipe_some e).1
theorem kept_less {σ : L2.St} {vs ws : List Nat} (h : ∀ i ∈ ws, i ∈ vs) : Kept (wipe σ vs) (wipe σ ws) := fun j v e => by
  obtain ⟨e1, e2⟩ := wipe_some e
  rw [wipe_out fun z => e2 (h j z), e1]
/-- one turn's text: `work` behind the tests -/
def turnText (e : Expr) (k : Nat) (tg : Expr) (p : Pos) (ifs : List Expr) (work : Sem Unit) (it acc : Value) (env : Env) : Sem Fin :=
  standAt p >>= fun _ => pyNext it >>= fun r => match r with
    | none => pure (.done .next)
    | some v => letOwnedTupleGo tg it v >>= fun _ => assign tg env v >>= fun _ =>
      (forIn ifs true fun c r => if r = true then isTrue c env (eval c env) >>= fun ok => pure (ForInStep.yield ok) else pure (ForInStep.yield r)) >>= fun ok =>
        if ok = true then work >>= fun _ => again (.compLoop e k it acc env) else again (.compLoop e k it acc env)
section
variable {Y : Cx} {elt : Expr} {gens : List Comprehension} {scope : Scope} {pos : Pos} {k : Nat} {tg : Expr} {p : Pos} {ifs : List Expr} {work : Sem Unit} {it : Addr} {acc : Value} {pins : List (Addr × Obj)} {fp : List Addr} {tn : Nat → Heap → Prop} {J : It}
  {g : TG} {tt : TT} {wk : L2.St → Hp → (Hp → Prop) → Prop} {σ0 : L2.St} {vs : List Nat} {W : Nat → Nat → Hp → Prop} {fin : Hp → Prop} {R : Result → Shared → Prop}
theorem clause_loop (hY : Y.xe = fun _ _ => False) (hc : Y.calm = true) (he : compTurn (.SetComp elt gens scope pos) k (.ref it) acc Y.env = turnText (.SetComp elt gens scope pos) k tg p ifs work (.ref it) acc Y.env)
    (T : Turn Y.prog Y.w Y.K tg J fp it tn) (own : ∀ b ∈ fp, ∃ H, FpOk Y pins H b) (pg : PG Y tg g) (pt : PTs Y ifs tt)
    (pw : ∀ pl σ H N s, Inv Y (pins ++ pl) σ H s → wk σ H N → wpAny (model Y.prog Y.w) Y.A work (fun _ s' => ∃ σ' H', Inv Y (pins ++ pl) σ' H' s' ∧ Kept (wipe σ vs) σ' ∧ N H') (fun _ _ => False) s)
    (tu : Turns J g tt wk σ0 vs W fin) (hR : ∀ H s, Inv Y pins σ0 H s → fin H → R (.ok .next) s) {m i : Nat} {H : Hp} {s : Shared} (I : Inv Y pins σ0 H s) (st : tn i s.heap) (fr : ∀ b ∈ fp, H b = none) (w : W i m H) :
    codeAny (model Y.prog Y.w) Y.A (.compLoop (.SetComp elt gens scope pos) k (.ref it) acc Y.env) R s := by
  have out : ∀ {H : Hp}, (∀ b ∈ fp, H b = none) → ∀ b ∈ fp, FpOk Y pins H b := fun f b hb => let ⟨_, z⟩ := own b hb; ⟨f b hb, z.2⟩
  refine codeAny_loop rfl (fun n s' => ∃ i H', Inv Y pins σ0 H' s' ∧ tn i s'.heap ∧ (∀ b ∈ fp, H' b = none) ∧ W i n H') ?_ m ⟨i, H, I, st, fr, w⟩
  clear I st fr w
  rintro n s ⟨i, H, I, st, fr, w⟩
  show wpAny _ Y.A ((compTurn (.SetComp elt gens scope pos) k (.ref it) acc Y.env).onRaise fun x => noteFrame x Y.env >>= fun _ => theTreesLotGoes x) _ _ s
  refine wpAny_noted ?_
  rw [he, turnText]
  refine wpAny_bind (wpAny_standAt (wpAny_bind ?_))
  rcases tu i n H w with ⟨stop, q⟩ | ⟨go, N, hN, step⟩
  · refine thnF (T.done Y rfl rfl rfl hc i pins s σ0 H _ I (out fr) st stop) fun r s1 z => ?_
    rw [z.1]
    exact wpAny_pure (hR H s1 z.2 q)
  refine thnF (T.item Y rfl rfl rfl hc i pins s σ0 H _ I (out fr) st go) fun r s1 z => ?_
  obtain ⟨u, rfl, z⟩ := z
  refine wpAny_bind (thnF z fun _ s2 z => ?_)
  obtain ⟨x, H2, I2, rx, y, st2, fr2⟩ := z
  -- what a turn's end asks
  have fine : ∀ {σ' : L2.St} {H' : Hp} {s' : Shared}, Inv Y (pins ++ pinsAt fp s2.heap) σ' H' s' → Kept σ0 σ' → N H' → ∃ n', n' < n ∧ ∃ i H', Inv Y pins σ0 H' s' ∧ tn i s'.heap ∧ (∀ b ∈ fp, H' b = none) ∧ W i n' H' := by
    intro σ' H' s' I' kp nx
    obtain ⟨n', lt, w'⟩ := hN H' nx
    have stays : ∀ b ∈ fp, ∀ o, s2.heap.get? b = some o → s'.heap.get? b = some o ∧ H' b = none := fun b hb o eo => by
      obtain ⟨p1, p2, _⟩ := I'.pin (b, o) (List.mem_append.mpr (.inr (List.mem_append.mpr (.inr (mem_pinsAt hb eo)))))
      exact ⟨p1, p2⟩
    refine ⟨n', lt, i + 1, H', I'.unpinned.weak (I.len.trans I'.len.symm) kp, T.keep _ _ _ st2 fun b hb o eo => (stays b hb o eo).1, fun b hb => ?_, w'⟩
    obtain ⟨o, eo, _⟩ := T.obj _ _ st2 b hb
    exact (stays b hb o eo).2
  have pgr := pg.run _ s2 σ0 H2 x u _ (I2.pinned (out fr2) (T.obj _ _ st2)) rx (step x H2 y)
  rw [hY] at pgr
  refine wpAny_bind (thnF pgr fun _ s3 z => ?_)
  obtain ⟨σ3, H3, I3, e3, z⟩ := z
  have ptr := pt.run _ s3 σ3 H3 _ I3 z
  rw [hY] at ptr
  refine wpAny_bind (thnF ptr fun b s4 z => ?_)
  obtain ⟨H4, I4, z⟩ := z
  by_cases hb : b = true
  · rw [if_pos hb] at z ⊢
    refine wpAny_bind (thnF (pw _ σ3 H4 N s4 I4 z) fun _ s5 z => ?_)
    obtain ⟨σ5, H5, I5, kp, nx⟩ := z
    exact wpAny_pure ⟨rfl, fine I5 (e3 ▸ kp) nx⟩
  · rw [if_neg hb] at z ⊢
    exact wpAny_pure ⟨rfl, fine I4 (e3 ▸ kept_wipe σ3 vs) z⟩
end
/-- a clause's start: its iterator is asked for itself, or not; the loop then -/
theorem clause_start {P : Program} {w : World} {A : Around} {R : Result → Shared → Prop} {s : Shared} {elt : Expr} {gens : List Comprehension} {scope : Scope} {pos : Pos} {k : Nat} {g : Comprehension} {it acc : Value} {env : Env}
    (hg : gens[k]? = some g) (ha : g.is_async = 0) (self : ∀ (Q : Value → Shared → Prop) (E : Value → Shared → Prop), Q it s → wpAny (model P w) A (pyIter it) Q E s)
    (loop : codeAny (model P w) A (.compLoop (.SetComp elt gens scope pos) k it acc env) R s) : codeAny (model P w) A (.compStart (.SetComp elt gens scope pos) k it acc env) R s := by
  refine codeAny_of_tree ?_
  show wpAny _ A ((compStart (.SetComp elt gens scope pos) k it acc env).onRaise fun x => noteFrame x env >>= fun _ => standAt theWindowsPlace) _ _ s
  refine wpAny_notedAt ?_
  have hk : (clausesOf (.SetComp elt gens scope pos))[k]? = some g := hg
  unfold compStart
  rw [hk]
  have hn : ((some g).elim false fun c : Comprehension => c.is_async != 0) = false := by
    show (g.is_async != 0) = false
    rw [ha]; rfl
  rw [hn]
  show wpAny _ _ (ask >>= _) _ _ s
  refine wpAny_bind (wpAny_askSetting ?_)
  show wpAny _ _ (if w.params.followText "comprehension-iter-twice" = true then _ else _) _ _ s
  by_cases c : w.params.followText "comprehension-iter-twice" = true
  · rw [if_pos c]
    exact wpAny_bind (wpAny_pure (wpAny_pure ⟨rfl, loop⟩))
  · rw [if_neg c]
    exact wpAny_bind (wpAny_rule (wpAny_bind (wpAny_standAt (wpAny_bind (self _ _ (wpAny_pure ⟨rfl, loop⟩))))))
section
variable {X : Cx}
/-- in each block with this scope -/
abbrev InBlk (X : Cx) (scope : Scope) (F : Cx → Prop) : Prop := ∀ s H C cl fp, F (X.blk s H scope (compEnvC scope cl C X.env) fp)
/-- a new text is put to D -/
abbrev addsX (P : Program) (w : World) (D : Addr) (te : TE) : L2.St → Hp → (Hp → Prop) → Prop := fun σ H N => te σ H fun y H1 => ∃ (c : Str) (l : List Str), y = .str c ∧ H1 D = some (SetX P w D l) ∧ l.length + 1 < scanBound ∧ N (upd H1 D (SetX P w D (insX c l)))
/-- a set comprehension's reading: wk, what is done behind the first clause's tests -/
def tBlk (P : Program) (w : World) (wi : TI) (g : TG) (tt : TT) (wk : Addr → L2.St → Hp → (Hp → Prop) → Prop) (vs : List Nat) : TE := fun σ H Q => wi σ H fun J H1 => ∀ D, H1 D = none →
  ∃ W : Nat → Nat → Hp → Prop, (∃ m, W 0 m (upd H1 D (SetX P w D []))) ∧ Turns J g tt (wk D) (wipe σ vs) vs W (Q (.ref D))
theorem set_block {elt tg iter : Expr} {ifs : List Expr} {rest : List Comprehension} {scope : Scope} {own : List (Str × Nat)} {pos : Pos} {wi : TI} {g : TG} {tt : TT} {wk : Addr → L2.St → Hp → (Hp → Prop) → Prop} {work : Addr → Env → Sem Unit}
    (hc : X.calm = true) (hN : X.N.Nodup) (hi : PI X tg iter wi) (ok : BlkOk X.N X.env.scope scope own)
    (hg : InBlk X scope fun Y => PG Y tg g)
    (ht : InBlk X scope fun Y => PTs Y ifs tt)
    (he : ∀ it D env, compTurn (.SetComp elt (⟨tg, iter, ifs, 0⟩ :: rest) scope pos) 0 (.ref it) (.ref D) env = turnText (.SetComp elt (⟨tg, iter, ifs, 0⟩ :: rest) scope pos) 0 tg iter.pos ifs (work D env) (.ref it) (.ref D) env)
    (pw : ∀ (s0 : Shared) (H0 : Hp) (C : Addr) (cl : List (Str × Addr)) (fp : List Addr) (D : Addr) pins σ H N s, Inv (X.blk s0 H0 scope (compEnvC scope cl C X.env) fp) pins σ H s → wk D σ H N →
      wpAny (model X.prog X.w) X.A (work D (compEnvC scope cl C X.env)) (fun _ s' => ∃ σ' H', Inv (X.blk s0 H0 scope (compEnvC scope cl C X.env) fp) pins σ' H' s' ∧ Kept (wipe σ (own.map (·.2))) σ' ∧ N H') (fun _ _ => False) s)
    (hs : ∀ x, foldedSetIterable iter X.env x = pure x) : PE X (.SetComp elt (⟨tg, iter, ifs, 0⟩ :: rest) scope pos) (tBlk X.prog X.w wi g tt wk (own.map (·.2))) := by
  refine ⟨fun pins s σ H Q I h => ?_⟩
  rw [eval_SetComp]
  have free : ∀ y ∈ scope.names, y.2 = .free → ∃ c, X.env.cells.lookup y.1 = some c := fun y hy e => I.ok.has _ (ok.free y hy e)
  refine wpAny_comprehension_free (use := none) rfl hs (closure_ok free) ok.kind (fun y hy e => e ▸ ok.uniq y hy) (thn (hi.run pins s σ H _ I h) fun _ _ z => thn z fun _ s2 z => ?_)
  obtain ⟨it, fp, tn, J, H2, rfl, I2, T, st2, f2, q⟩ := z
  refine newSet_ok (newEnv_comp ?_)
  obtain ⟨W, ⟨m0, w0⟩, tu⟩ := q s2.heap.objs.size (I2.hok.fresh (Nat.le_refl _))
  have I3 := I2.laid (t' := s2.toks) (a := s2.heap.objs.size) (fun b o e => Heap.get?_push_of_some (bareX X.w) e) (Nat.le_refl _) (setX_new (sx_fresh (Heap.get?_push_size _ rfl)))
  have young : ∀ b ∈ fp, b < s2.heap.objs.size := fun b hb => let ⟨_, e, _⟩ := T.obj _ _ st2 b hb; Heap.lt_size e
  have st3 := T.keep 0 _ (s2.heap.push (bareX X.w)) st2 fun b _ o e => Heap.get?_push_of_some _ e
  have f3 : ∀ b ∈ fp, FpOk X pins (upd H2 s2.heap.objs.size (SetX X.prog X.w s2.heap.objs.size [])) b := fun b hb => ⟨by rw [upd_ne (Nat.ne_of_lt (young b hb))]; exact (f2 b hb).1, (f2 b hb).2⟩
  have old : ∀ b ∈ fp, b < (s2.heap.push (bareX X.w)).objs.size := fun b hb => by rw [Heap.size_push]; exact Nat.lt_succ_of_lt (young b hb)
  generalize upd H2 s2.heap.objs.size (SetX X.prog X.w s2.heap.objs.size []) = H3 at I3 f3 w0
  generalize s2.heap.objs.size = D at I3 tu ⊢
  generalize hs3 : ({ s2 with heap := s2.heap.push (bareX X.w) } : Shared) = s3 at I3
  have e3 : s3.heap = s2.heap.push (bareX X.w) := by rw [← hs3]
  rw [← e3] at st3 old
  have I4 := block_start I3 ok hN fun b hb => ⟨f3 b hb, old b hb⟩
  have st4 := T.keep 0 _ (pushCells (s3.heap.push { cls := .type "dict", data := .dict #[] }) scope.names) st3 fun b _ o e => pushCells_keeps _ _ _ _ (Heap.get?_push_of_some _ e)
  show codeAny _ _ (.compStart _ 0 (.ref it) (.ref D) (compEnvC scope (cellsFrom (s3.heap.objs.size + 1) scope.names (cloFrom X.env.cells scope.names [])) s3.heap.objs.size X.env)) _
    { s3 with heap := pushCells (s3.heap.push { cls := .type "dict", data := .dict #[] }) scope.names }
  refine clause_start rfl rfl (fun _ _ z => T.self X.A 0 _ _ _ st4 z) ?_
  refine clause_loop (Y := X.blk s3 H3 scope (compEnvC scope (cellsFrom (s3.heap.objs.size + 1) scope.names (cloFrom X.env.cells scope.names [])) s3.heap.objs.size X.env) fp) rfl hc (he _ _ _) T
    (fun b hb => ⟨H3, (f3 b hb).1, (I4.ok.exf b hb).1, I4.ok.exfs b hb, .inl hb, fun x c e => (I4.ok.exf b hb).2 x c e, fun p hp => (List.not_mem_nil (show p ∈ ([] : List (Addr × Obj)) from hp)).elim⟩) (hg _ _ _ _ _) (ht _ _ _ _ _) (fun pl σ' H' N s' I' z => pw _ _ _ _ _ D _ _ _ _ _ I' z) tu (fun H' s' I' q => ?_) I4 st4 (fun b hb => (f3 b hb).1) w0
  -- back in the def
  have J' := I3.call' (ch := fp) I'.os I'.base I'.hok I'.bare fun b hb => let ⟨_, z1, _, z3, z4, z5⟩ := f3 b hb; ⟨z3, z1, z4, z5⟩
  obtain ⟨m, hm, _⟩ := I'.loc
  obtain ⟨n0, n1, n2, n3, n4, n5⟩ := I3.fpOk (H' := H') (Nat.le_refl _) I'.free
  exact ⟨m, hm, fun h'' sb => ⟨.ref D, H', J'.turned (t' := s'.toks) (fun b o hb e => (sb.2 b hb).trans e) n0 n1 n3 n4 n5, rfl, q⟩⟩
/-- the element's text, then its add -/
def emitX (elt : Expr) (D : Addr) (env : Env) : Sem Unit := eval elt env >>= fun v => standAt elt.pos >>= fun _ => call (.builtin "set.add") [.ref D, v] >>= fun _ => pure ()
theorem emits {Y : Cx} {elt : Expr} {te : TE} {D : Addr} {vs : List Nat} (hY : Y.xe = fun _ _ => False) (he : PE Y elt te) {pins σ H N s} (I : Inv Y pins σ H s) (h : addsX Y.prog Y.w D te σ H N) :
    wpAny (model Y.prog Y.w) Y.A (emitX elt D Y.env) (fun _ s' => ∃ σ' H', Inv Y pins σ' H' s' ∧ Kept (wipe σ vs) σ' ∧ N H') (fun _ _ => False) s := by
  have r := he.run pins s σ H _ I h
  rw [hY] at r
  refine wpAny_bind (thnF r fun v s1 z => wpAny_bind (wpAny_standAt (wpAny_bind ?_)))
  obtain ⟨_, H1, I1, rv, c, l, rfl, e, room, nx⟩ := z
  obtain ⟨u, rfl⟩ := (show ∃ u, v = Value.str c u from rv)
  exact addX_ok I1 e room fun s2 I2 => wpAny_pure ⟨σ, _, I2, kept_wipe σ vs, nx⟩
/-- {elt for tg in iter if ..} -/
abbrev tScX (P : Program) (w : World) (wi : TI) (g : TG) (tt : TT) (te : TE) (vs : List Nat) : TE := tBlk P w wi g tt (fun D => addsX P w D te) vs
theorem pe_scX {elt tg iter : Expr} {ifs : List Expr} {scope : Scope} {own : List (Str × Nat)} {pos : Pos} {wi : TI} {g : TG} {tt : TT} {te : TE} (hc : X.calm = true) (hN : X.N.Nodup) (hi : PI X tg iter wi) (ok : BlkOk X.N X.env.scope scope own)
    (hg : InBlk X scope fun Y => PG Y tg g)
    (ht : InBlk X scope fun Y => PTs Y ifs tt)
    (he : InBlk X scope fun Y => PE Y elt te) (hs : ∀ x, foldedSetIterable iter X.env x = pure x := by intro _; rfl) :
    PE X (.SetComp elt [⟨tg, iter, ifs, 0⟩] scope pos) (tScX X.prog X.w wi g tt te (own.map (·.2))) :=
  set_block (work := emitX elt) hc hN hi ok hg ht (fun _ _ _ => rfl) (fun s0 H0 C cl fp D pins σ H N s I h => emits (Y := X.blk s0 H0 scope (compEnvC scope cl C X.env) fp) rfl (he _ _ _ _ _) I h) hs
/-- {elt for tg in iter if .. for tg1 in iter1 if ..}: vs1, the second target's slots -/
abbrev tScX2 (P : Program) (w : World) (wi : TI) (g : TG) (tt : TT) (wi1 : TI) (g1 : TG) (tt1 : TT) (te : TE) (vs vs1 : List Nat) : TE :=
  tBlk P w wi g tt (fun D σ H N => wi1 σ H fun J1 H1 => ∃ W1 : Nat → Nat → Hp → Prop, (∃ m, W1 0 m H1) ∧ Turns J1 g1 tt1 (addsX P w D te) (wipe σ vs1) vs1 W1 N) vs
def innerX (e : Expr) (iter1 : Expr) (D : Addr) (env : Env) : Sem Unit :=
  eval iter1 env >>= fun x => standAt iter1.pos >>= fun _ => foldedSetIterable iter1 env x >>= fun x => holding [x] (pyIter x) >>= fun t => runOwn (.compStart e 1 t (.ref D) env) env >>= fun _ => pure ()
theorem turn_inner {elt tg iter tg1 iter1 : Expr} {ifs ifs1 : List Expr} {scope : Scope} {pos : Pos} {it D : Addr} {env : Env} : compTurn (.SetComp elt [⟨tg, iter, ifs, 0⟩, ⟨tg1, iter1, ifs1, 0⟩] scope pos) 0 (.ref it) (.ref D) env =
    turnText (.SetComp elt [⟨tg, iter, ifs, 0⟩, ⟨tg1, iter1, ifs1, 0⟩] scope pos) 0 tg iter.pos ifs (innerX (.SetComp elt [⟨tg, iter, ifs, 0⟩, ⟨tg1, iter1, ifs1, 0⟩] scope pos) iter1 D env) (.ref it) (.ref D) env := by
  rw [turnText]
  simp only [innerX, bind_assoc, pure_bind]
  rfl
theorem pe_scX2 {elt tg iter tg1 iter1 : Expr} {ifs ifs1 : List Expr} {scope : Scope} {own : List (Str × Nat)} {vs1 : List Nat} {pos : Pos} {wi wi1 : TI} {g g1 : TG} {tt tt1 : TT} {te : TE} (hc : X.calm = true) (hN : X.N.Nodup) (hi : PI X tg iter wi) (ok : BlkOk X.N X.env.scope scope own) (hv : ∀ i ∈ vs1, i ∈ own.map (·.2))
    (hg : InBlk X scope fun Y => PG Y tg g)
    (ht : InBlk X scope fun Y => PTs Y ifs tt)
    (hi1 : InBlk X scope fun Y => PI Y tg1 iter1 wi1)
    (hg1 : InBlk X scope fun Y => PG Y tg1 g1)
    (ht1 : InBlk X scope fun Y => PTs Y ifs1 tt1)
    (he : InBlk X scope fun Y => PE Y elt te) (hs : ∀ x, foldedSetIterable iter X.env x = pure x := by intro _; rfl) (hs1 : ∀ env x, foldedSetIterable iter1 env x = pure x := by intro _ _; rfl) :
    PE X (.SetComp elt [⟨tg, iter, ifs, 0⟩, ⟨tg1, iter1, ifs1, 0⟩] scope pos) (tScX2 X.prog X.w wi g tt wi1 g1 tt1 te (own.map (·.2)) vs1) := by
  refine set_block (work := innerX (.SetComp elt [⟨tg, iter, ifs, 0⟩, ⟨tg1, iter1, ifs1, 0⟩] scope pos) iter1) hc hN hi ok hg ht (fun _ _ _ => turn_inner) (fun s0 H0 C cl fp D pins σ H N s I h => ?_) hs
  refine wpAny_bind (thnF ((hi1 s0 H0 C cl fp).run pins s σ H _ I h) fun x s1 z => wpAny_bind (wpAny_standAt (wpAny_bind (wpAny_of_eq (hs1 _ x) (wpAny_bind (wpAny_holding (thnF z fun t s2 z => ?_)))))))
  obtain ⟨it, fp1, tn, J, H2, rfl, I2, T, st, f, W, ⟨m, w0⟩, tu⟩ := z
  refine wpAny_bind (wpAny_runOwn ?_)
  rw [Around.mark_none]
  exact clause_start rfl rfl (fun _ _ z => T.self X.A 0 _ _ _ st z) (clause_loop (Y := X.blk s0 H0 scope (compEnvC scope cl C X.env) fp) rfl hc (work := emitX elt D (compEnvC scope cl C X.env)) rfl T (fun b hb => ⟨H2, f b hb⟩) (hg1 _ _ _ _ _) (ht1 _ _ _ _ _)
    (fun pl σ' H' N' s' I' z => emits (Y := X.blk s0 H0 scope (compEnvC scope cl C X.env) fp) rfl (he _ _ _ _ _) I' z) tu (fun H' s' I' nx => wpAny_pure ⟨_, H', I', kept_less hv, nx⟩) (I2.weak (wipe_length _ _) (kept_wipe σ vs1)) st (fun b hb => (f b hb).1) w0)
end
end RM

set_option Elab.async false
set_option linter.all false
set_option maxRecDepth 100000
set_option maxHeartbeats 2000000
/-! sorted(a set of texts) -/
namespace RM
open PySem PySem.Spec PyProof.Rows L2 PySem.Froz
/-! ### texts among values -/
def Text (v : Value) : Prop := ∃ k u, v = .str k u
theorem texts_are : ∀ {l : List Value}, (∀ v ∈ l, Text v) → StrsAre l (l.map strOf)
  | [], _ => .nil
  | _ :: _, h => by
    obtain ⟨h1, h2⟩ := List.forall_mem_cons.mp h
    obtain ⟨k, u, rfl⟩ := h1
    exact .cons k u (texts_are h2)
/-- as many, and nothing lacks: the same -/
theorem perm_of_sub : ∀ {l m : List Str}, l.Nodup → (∀ k ∈ l, k ∈ m) → m.length ≤ l.length → m.Perm l
  | [], m, _, _, h => by rw [List.eq_nil_of_length_eq_zero (Nat.le_zero.mp h)]
  | a :: l, m, nd, sub, h => by
    have ha := sub a List.mem_cons_self
    have el := List.length_erase_of_mem ha
    have ep := List.length_pos_of_mem ha
    obtain ⟨na, nd⟩ := List.nodup_cons.mp nd
    refine (List.perm_cons_erase ha).trans ((perm_of_sub nd (fun k hk => ?_) ?_).cons a)
    · have ne : k ≠ a := by rintro rfl; exact na hk
      exact (List.mem_erase_of_ne ne).mpr (sub k (List.mem_cons_of_mem _ hk))
    · rw [List.length_cons] at h; omega
theorem Txs.values {P : Program} {w : World} {D : SD} {l : List Str} (F : Txs P w D l) {vs : List Value} (p : vs.Perm (D.1.toList.map (·.2))) : StrsAre vs (vs.map strOf) ∧ (vs.map strOf).Perm l := by
  have shape : ∀ {k : Str} {v : Value}, (strKind P w).is k v = true → ∃ u, v = .str k u := fun h => Value.isStrOf_shape h
  refine ⟨texts_are fun v hv => ?_, perm_of_sub F.nd (fun k hk => ?_) ?_⟩
  · obtain ⟨e, he, rfl⟩ := List.mem_map.mp (p.mem_iff.mp hv)
    obtain ⟨⟨k, h1, _⟩, _⟩ := F.ok.el e he
    exact ⟨k, shape h1⟩
  · obtain ⟨e, he, h1⟩ := (F.ok.mem k).mp hk
    obtain ⟨u, h2⟩ := shape h1
    exact List.mem_map.mpr ⟨.str k u, p.mem_iff.mpr (List.mem_map.mpr ⟨e, he, h2⟩), rfl⟩
  · rw [List.length_map, p.length_eq, List.length_map, Array.length_toList, F.ok.sz]
    exact Nat.le_refl _
/-! ### sorted, of whatever gives texts -/
section
variable {P : Program} {w : World} {A : Around} {E : Value → Shared → Prop} {s : Shared}
theorem sorted_texts {x : Value} {ks : List Str} {Q : Value → Shared → Prop} (few : ks.length ≤ 1000)
    (gives : wpAny (model P w) A.in1 (collect x) (fun vs s1 => StrsAre vs (vs.map strOf) ∧ (vs.map strOf).Perm ks ∧
      ∀ ys us h' c, StrsAre us ys → ys.Perm ks → sortedS ys = true → (∀ b o, s1.heap.get? b = some o → h'.get? b = some o) → h'.get? s1.heap.objs.size = some (seqObj "list" us.toArray c) → Q (.ref s1.heap.objs.size) { s1 with heap := h' }) E s) :
    wpAny (model P w) A (call (.builtin "sorted") [x]) Q E s := by
  refine Calls.call_function_entry kind_sorted plain_sorted entry_sorted (args_sorted1 _) ?_
  unfold Builtin.«sorted»
  refine wpAny_bind (m := checkCount "sorted" 1 1 _) (wpAny_pure (wpAny_bind (thn gives fun vs s1 z => ?_)))
  obtain ⟨hS, pk, q⟩ := z
  have sz : vs.length ≤ sizeLine := by
    have e := pk.length_eq
    rw [List.length_map] at e
    rw [e, sizeLine_eq]; omega
  refine wpAny_bind (wpAny_newList ?_ sz)
  have at_ : (s1.heap.push (seqObj "list" vs.toArray 0)).get? s1.heap.objs.size = some (seqObj "list" vs.toArray 0) := Heap.get?_push_size _ rfl
  refine wpAny_bind (wpAny_holding (wpAny_call_entry slot_list_sort ⟨_, at_, rfl⟩ entry_list_sort (list_sort_treeKAny strKind_oneLt at_ hS.keysOf (fun _ _ _ e => keyKind_strs (e ▸ hS)) sz fun st' hp hs => ⟨_, rfl, ?_⟩) (args_list_sort _)))
  obtain ⟨ys, h1, h2, h3⟩ := sorted_out_str hS hp hs
  obtain ⟨c, hc⟩ := sortedHeap_at (vs := vs) (out := (arrOf st').map (·.2)) at_
  refine wpAny_pure ⟨_, rfl, q ys _ _ c h1 (h2.trans pk) h3 (fun b o e => ?_) (by rw [Array.toArray_toList]; exact hc)⟩
  have lt := Heap.lt_size e
  rw [sortedHeap_old (Nat.ne_of_lt lt) (by rw [size_push']; exact Nat.lt_succ_of_lt lt)]
  exact Heap.get?_push_of_some _ e
end
def rSortX (P : Program) (w : World) : List V → Hp → VK → Prop := fun xs H Q => ∃ (a : Addr) (l : List Str), xs = [V.ref a] ∧ H a = some (SetX P w a l) ∧ l.length ≤ 1000 ∧
  ∀ (ks : List Str) (p : Addr), ks.Perm l → l.Nodup → sortedS ks = true → H p = none → Q (.ref p) (upd H p (.lst (ks.map V.str)))
theorem cr_sortX {X : Cx} (hc : X.calm = true) : CallR X (.builtin "sorted") (rSortX X.prog X.w) := by
  rintro pins s σ H xs us Q I r ⟨a, l, rfl, e, few, q⟩
  rw [Vals.ref1 r]
  obtain ⟨D, ho, F⟩ := Txs.of I e
  refine sorted_texts few (collect_set (A := X.A.in1) (es := D.1) (ep := D.2.1) (t := D.2.2) (I.ok.hd hc) ⟨_, ho, rfl, rfl⟩ F.ok.fit (by rw [F.ok.sz]; exact F.few) F.wk.1 F.wk.2 fun s1 vs keep _ gs os pm => ?_)
  obtain ⟨t1, t2⟩ := F.values pm
  refine ⟨t1, t2, fun ys us' h' c h1 h2 h3 keep' at_ => ?_⟩
  have I1 : Inv X pins σ H s1 := I.call' (ch := []) os (Un.kept keep) (I.hok.kept keep) (by rw [gs]; exact I.bare) (fun _ z => nomatch z)
  have sz : (ys.map V.str).length ≤ sizeLine := by rw [List.length_map, h2.length_eq, sizeLine_eq]; omega
  exact ⟨.ref s1.heap.objs.size, _, I1.laid (t' := s1.toks) (o := .lst (ys.map V.str)) keep' (Nat.le_refl _) ⟨sz, us', c, vals_of_strs h1, at_⟩, rfl, q ys _ h2 F.nd h3 (I1.hok.fresh (Nat.le_refl _))⟩
end RM

set_option Elab.async false
set_option linter.all false
set_option maxRecDepth 100000
set_option maxHeartbeats 4000000
/-! set(a list of texts) -/
namespace RM
open PySem PySem.Spec PyProof.Rows L2 PySem.Froz
/-- the texts r put to l, one after another -/
def pour : List Str → List Str → List Str
  | [], l => l
  | k :: r, l => pour r (insX k l)
theorem pour_mem {k : Str} : ∀ {r l : List Str}, k ∈ pour r l ↔ k ∈ r ∨ k ∈ l
  | [], l => by simp [pour]
  | a :: r, l => by rw [pour, pour_mem, insX_mem, List.mem_cons]; grind
theorem pour_len : ∀ {r l : List Str}, (pour r l).length ≤ r.length + l.length
  | [], l => by simp [pour]
  | a :: r, l => by
    have := pour_len (r := r) (l := insX a l)
    have := insX_len (k := a) (l := l)
    rw [pour, List.length_cons]
    omega
section
variable {P : Program} {w : World} {A : Around} {R : Result → Shared → Prop} {I S : Addr} {s : Shared}
/-- one turn of the builtin's loop -/
theorem loop_turn (h : wpAny (model P w) A.in1 (pyNext (.ref I)) (fun r s1 => match r with
      | none => R (.ok (.ret .none)) s1
      | some v => wpAny (model P w) A.in1 (setAdd S v) (fun _ s2 => codeAny (model P w) A (.builtin "set.update.loop" ⟨[.ref S, .ref I], []⟩) R s2) (fun e s' => R (.error e) s') s1) (fun e s' => R (.error e) s') s) :
    codeAny (model P w) A (.builtin "set.update.loop" ⟨[.ref S, .ref I], []⟩) R s := by
  refine codeAny_builtin F.entry_set_update_loop ?_
  rw [Around.under_plainId F.plain_set_update_loop _]
  show wpAny _ A.in1 (pyNext (.ref I) >>= _) _ _ s
  refine wpAny_bind (wpAny_mono h (fun r s1 z => ?_) fun _ _ z => z)
  match r, z with
  | none, z => exact wpAny_pure z
  | some v, z => exact wpAny_bind (wpAny_holding (wpAny_mono z (fun _ _ y => wpAny_pure ⟨plainId_quiet F.plain_set_update_loop _, y⟩) fun _ _ y => y))
variable {fp wr : List Addr} {G : Array GenState → Array GenState → Prop} {n : Nat} {Pv : Nat → Value → Prop} {St : Nat → Shared → Prop}
theorem loop_x (W : WalksS P w A.in1 I fp wr G n Pv St) (hS : S ∉ fp) {zs : List Str} (hn : n = zs.length) (hv : ∀ i v, Pv i v → ∃ k u, zs[i]? = some k ∧ v = .str k u) :
    ∀ (r : List Str) (i : Nat) (l : List Str) (s : Shared), zs.drop i = r → i ≤ zs.length → St i s → SX P w s.heap S l → l.length + r.length < scanBound →
      (∀ s', Moved (S :: wr) G s s' → SX P w s'.heap S (pour r l) → R (.ok (.ret .none)) s') → codeAny (model P w) A (.builtin "set.update.loop" ⟨[.ref S, .ref I], []⟩) R s := by
  have out : S ∉ wr := fun h => hS (W.sub _ h)
  have more : ∀ b ∈ wr, b ∈ S :: wr := fun _ hb => List.mem_cons_of_mem _ hb
  intro r
  induction r with
  | nil =>
    intro i l s hd hi st sx _ q
    have e : i = n := by have := List.drop_eq_nil_iff.mp hd; omega
    subst e
    refine loop_turn (W.done s _ _ st fun s1 mv => ?_)
    exact q s1 (mv.mono more) (sx.at fun o e => mv.heap S o out e)
  | cons z r ih =>
    intro i l s hd hi st sx room q
    rw [List.length_cons] at room
    have lt : i < n := by
      have := congrArg List.length hd
      rw [List.length_drop, List.length_cons] at this
      omega
    have hz : zs[i]? = some z := by rw [← List.head?_drop, hd]; rfl
    have hd' : zs.drop (i + 1) = r := by rw [← List.tail_drop, hd]; rfl
    refine loop_turn (W.item i s _ _ lt st fun v s1 hp st1 mv => ?_)
    obtain ⟨k, u, hk, rfl⟩ := hv i v hp
    obtain rfl : z = k := by rw [hz] at hk; exact Option.some.inj hk
    refine setAdd_x (sx.at fun o e => mv.heap S o out e) (by omega) fun _ h' sb sx2 => ?_
    have ne : ∀ b ∈ fp, b ≠ S := fun b hb e => hS (e ▸ hb)
    refine ih (i + 1) _ _ hd' (by omega) (W.frame _ s1 _ _ st1 (Nat.le_succ _) fun b hb o e => by rw [sb.2 b (ne b hb)]; exact e) sx2 (by have := insX_len (k := z) (l := l); omega) fun s2 mv2 sx3 => ?_
    refine q s2 (Moved.trans W.gtrans ((mv.mono more).then_heap (Nat.le_succ _) fun b o hb e => ?_) mv2) sx3
    rw [sb.2 b fun e => hb (e ▸ List.mem_cons_self)]
    exact e
end
section
variable {P : Program} {w : World} {A : Around} {E : Value → Shared → Prop} {s : Shared} {S l : Addr} {items : Array Value} {zs : List Str}
/-- the values of a list of texts, place by place -/
theorem text_at (ht : StrsAre items.toList zs) {i : Nat} {v : Value} (e : items[i]? = some v) : ∃ k u, zs[i]? = some k ∧ v = .str k u := by
  rw [← Array.getElem?_toList] at e
  obtain ⟨k, u, rfl⟩ := ht.all v (List.mem_of_getElem? e)
  refine ⟨k, u, ?_, rfl⟩
  rw [← ht.strs, List.getElem?_map, e]
  rfl
theorem no_set {a : Addr} {Q : Bool → Shared → Prop} (ty : s.TypeIs (.ref a) "list") (q : Q false s) : wpAny (model P w) A (Builtin.Frozenset.isAnySet (.ref a)) Q E s := by
  unfold Builtin.Frozenset.isAnySet
  refine wpAny_bind (wpAny_isInstance ty F.sub_list_set ?_)
  exact wpAny_isInstance ty F.sub_list_frozenset q
/-- an empty set is filled from a list of texts -/
theorem update_x {name : String} {Q : Unit → Shared → Prop} (hh : A.handled = none) (hS : s.heap.get? S = some (bareX w)) (hl : s.heap.IsList l items) (ht : StrsAre items.toList zs) (room : zs.length < scanBound)
    (q : ∀ s', (∀ b o, b ≠ S → s.heap.get? b = some o → s'.heap.get? b = some o) → s'.gens = s.gens → s'.drawn = s.drawn → s'.os = s.os → SX P w s'.heap S (pour zs []) → Q () s') :
    wpAny (model P w) A (Builtin.Frozenset.updateFrom name S (.ref l)) Q E s := by
  have sz : items.size = zs.length := by rw [← Array.length_toList]; exact ht.length
  have ltS := Heap.lt_size hS
  have ty : s.TypeIs (.ref l) "list" := let ⟨_, e, c, _⟩ := hl; ⟨_, e, c⟩
  have ltl : l < s.heap.objs.size := let ⟨_, e, _⟩ := hl; Heap.lt_size e
  have neSl : S ≠ l := by
    rintro rfl
    obtain ⟨o, ho, hcl, _⟩ := hl
    rw [hS] at ho
    cases ho
    exact absurd (show Value.type "set" = Value.type "list" from hcl) (by decide)
  unfold Builtin.Frozenset.updateFrom
  refine wpAny_bind (no_set ty ?_)
  rw [if_neg Bool.false_ne_true]
  refine wpAny_bind (wpAny_typeOf ty ?_)
  rw [if_neg (by decide)]
  refine wpAny_bind (wpAny_pyIter_list hl (wpAny_bind (wpAny_runValue ?_)))
  have W := (Walks.list (prog := P) (w := w) (A := A.in1) (by simp [hh]) s.heap.objs.size l (Nat.ne_of_lt ltl) items).toS
  refine loop_x W ?_ sz (fun i v e => text_at ht e) zs 0 [] _ rfl (Nat.zero_le _) ⟨⟨_, Heap.get?_push_size _ rfl, rfl, rfl⟩, hl.push _⟩ (sx_fresh (Heap.get?_push_of_some _ hS)) (by simp; omega) fun s' mv sx => ?_
  · simp only [List.mem_cons, List.not_mem_nil, or_false, not_or]
    exact ⟨Nat.ne_of_lt ltS, neSl⟩
  · refine wpAny_pure (q s' (fun b o ne e => mv.heap b o ?_ (Heap.get?_push_of_some _ e)) mv.gens mv.drawn mv.os sx)
    simp only [List.mem_cons, List.not_mem_nil, or_false, not_or]
    exact ⟨ne, Nat.ne_of_lt (Heap.lt_size e)⟩
theorem init_x {Q : PySem.Fin → Shared → Prop} (hh : A.handled = none) (hS : s.heap.get? S = some (bareX w)) (hl : s.heap.IsList l items) (ht : StrsAre items.toList zs) (room : zs.length < scanBound)
    (q : ∀ s', (∀ b o, b ≠ S → s.heap.get? b = some o → s'.heap.get? b = some o) → s'.gens = s.gens → s'.drawn = s.drawn → s'.os = s.os → SX P w s'.heap S (pour zs []) → Q (.done (.ret .none)) s') :
    wpAny (model P w) A (Builtin.«set.__init__» ⟨[.ref S, .ref l], []⟩) Q E s := by
  have ty : s.TypeIs (.ref S) "set" := ⟨_, hS, rfl⟩
  unfold Builtin.«set.__init__» noKeywords
  generalize hU : @Builtin.Frozenset.updateFrom = U
  wp_walk
  subst hU
  refine update_x hh hS hl ht room fun s' k1 k2 k3 k4 sx => ?_
  exact wpAny_pure (q s' k1 k2 k3 k4 sx)
/-- what `set(l)` hands back -/
theorem call_set_x {Q : Value → Shared → Prop} (hh : A.handled = none) (hl : s.heap.IsList l items) (ht : StrsAre items.toList zs) (room : zs.length < scanBound)
    (q : ∀ s', (∀ b o, s.heap.get? b = some o → s'.heap.get? b = some o) → s'.gens = s.gens → s'.drawn = s.drawn → s'.os = s.os → SX P w s'.heap s.heap.objs.size (pour zs []) → Q (.ref s.heap.objs.size) s') :
    wpAny (model P w) A (call (.type "set") [.ref l]) Q E s := by
  obtain ⟨_, _, line⟩ := F.called_set.mro
  have maker := F.called_set.made
  have below := F.called_set.sub
  have plain := F.called_set.notType
  have can := F.called_set.canCreate
  have count := F.typeCall_set_1 (.ref l)
  refine wpAny_call (codeAny_of_tree (wpAny_pure ⟨Code.quiet_builtin _ (by decide +kernel), codeAny_builtin F.entry_type_call ?_⟩))
  rw [Around.under_plain (weight_type_call_type "set" [.ref l] []) rfl]
  repeat (any_goals (first | assumption | wp_step))
  refine codeAny_mono (code_set_led1 (.ref l) (E := E) (Q₁ := fun v s1 => v = .ref s.heap.objs.size ∧ s1 = { s with heap := s.heap.push (bareX w) }) ⟨rfl, rfl⟩) fun r s1 z => ?_
  match r, z with
  | .error _, z => exact z
  | .ok .next, z => exact z.elim
  | .ok .brk, z => exact z.elim
  | .ok .cont, z => exact z.elim
  | .ok (.ret _), z =>
  obtain ⟨rfl, rfl⟩ := z
  have hS : (s.heap.push (bareX w)).get? s.heap.objs.size = some (bareX w) := Heap.get?_push_size _ rfl
  have ty : Shared.TypeIs { s with heap := s.heap.push (bareX w) } (.ref s.heap.objs.size) "set" := ⟨_, hS, rfl⟩
  have first := F.called_set.init.lookup
  have bound := F.called_set.init.bind (.ref s.heap.objs.size)
  repeat (any_goals (first | assumption | wp_step))
  refine codeAny_mono (codeAny_call_builtin (R := wants (fun v s2 => v = .none ∧ Q (.ref s.heap.objs.size) s2) E) F.called_set.init.plain F.entry_set_init (check_set_init_1 ty ?_)) fun r s2 z => ?_
  · refine init_x ?_ hS (hl.push _) ht room fun s2 k1 k2 k3 k4 sx => ⟨rfl, q s2 (fun b o e => k1 b o (Nat.ne_of_lt (Heap.lt_size e)) (Heap.get?_push_of_some _ e)) k2 k3 k4 sx⟩
    simp [hh]
  · match r, z with
    | .error _, z => exact z
    | .ok .next, z => exact z.elim
    | .ok .brk, z => exact z.elim
    | .ok .cont, z => exact z.elim
    | .ok (.ret _), z =>
    obtain ⟨rfl, qq⟩ := z
    repeat (any_goals (first | assumption | wp_step))
end
/-! ### over the tracked heap -/
def rSetL (P : Program) (w : World) (K : PySem.W.Frag) : List V → Hp → VK → Prop := fun xs H Q => ∃ (a : Addr) (zs : List Str), xs = [V.ref a] ∧ SqL K H a (zs.map V.str) ∧ zs.length + 1 < scanBound ∧
  ∀ (l : List Str) (p : Addr), l.length ≤ zs.length → (∀ k, k ∈ l ↔ k ∈ zs) → H p = none → Q (.ref p) (upd H p (SetX P w p l))
theorem cr_setL {X : Cx} (hc : X.calm = true) : CallR X (.type "set") (rSetL X.prog X.w X.K) := by
  rintro pins s σ H xs us Q I r ⟨a, zs, rfl, hs, hb, q⟩
  rw [Vals.ref1 r]
  obtain ⟨its, rv, hl, hz⟩ := I.list hs
  refine call_set_x (I.ok.hd hc) hl.isList (show StrsAre its.toArray.toList zs from rv.strs) (by omega) fun s' k1 k2 k3 k4 sx => ?_
  obtain ⟨h', _, _, t', _⟩ := s'
  cases k2
  cases k3
  cases k4
  have len := pour_len (r := zs) (l := [])
  exact ⟨.ref s.heap.objs.size, _, I.laid (t' := t') k1 (Nat.le_refl _) (setX_new sx), rfl, q _ _ (by simpa using len) (fun k => by rw [pour_mem]; simp) (I.hok.fresh (Nat.le_refl _))⟩
end RM

set_option Elab.async false
set_option linter.all false
set_option maxRecDepth 100000
set_option maxHeartbeats 2000000
/-! own == of instances -/
namespace RM
open PySem PySem.Spec PyProof.Rows L2
section
variable (P : Program) (w : World) (K : PySem.W.Frag) (mg : Str → Option Value) (base : Heap)
/-- an own special method, met by an operator -/
def Own (k : Nat) (C : Addr) (m : Str) (sp : Sp) : Prop :=
  ∃ (f : Addr) (fd : FuncData) (ps : List Str), FnOk P w K mg base CX0 k f fd ps sp ∧ PySem.W.findIn K (.ref C) m = some (some (.ref f)) ∧ PySem.W.isFn K (.ref f) = true ∧ Binds K fd ps []
end
section
variable {P : Program} {w : World} {K : PySem.W.Frag} {mg : Str → Option Value} {base : Heap} {k : Nat} {m x : Str} {C : Addr} {sp : Sp}
theorem own_0 {qual : Str} {st : Stmt} {N ps : List Str} (F : ∃ fd, FunD K m qual (defArgs st) (defBody st) (defScope st) [] [] (He.ma K (He.ga K x) m) fd) (hs : spcB K x m = true) (S : FnScope N ps (defScope st))
    (hb : ∀ (kV doc pm : Value) (an : Option Addr) (cdv ct : Value) (us : List Value), us.length = ps.length → bindArgs (PySem.W.fnOf m qual (defArgs st) (defBody st) (defScope st) .none kV doc pm an cdv ct) ⟨us, []⟩ = pure (ps.zip us))
    (len : ∀ vs H Q E, sp vs H Q E → vs.length = ps.length) (h : Body0 P w K mg base N qual st (He.ma K (He.ga K x) m) k sp) : Own P w K mg base (k + 1) (He.ga K x) m sp :=
  let ⟨fd, F⟩ := F
  ⟨_, fd, ps, fn_0 F S len h, (spcB_ok hs).1, (spcB_ok hs).2, F.bindsN hb⟩
end
theorem room64 {k : Nat} {A : Around} (hr : Room k A) : A.units + 64 < cLine := by have := hr.un; omega
theorem not_ni {z : V} {u : Value} (r : RelV z u) : u ≠ .notImplemented := by
  intro e
  subst e
  cases z <;> simp [L2.RelV] at r
/-- x == y, the two of one own class -/
def rOwn (C : Addr) (sp : Sp) : R2 := fun x y H Q => ∃ a b dx dy fs gs, x = .ref a ∧ y = .ref b ∧ H a = some (.ins C dx fs) ∧ H b = some (.ins C dy gs) ∧ sp [x, y] H Q E0
section
variable {X : Cx} {k j : Nat} {C : Addr} {sp : Sp}
/-- a def called with what stands for vs -/
theorem ask_def {f : Addr} {fd : FuncData} {ps : List Str} {pins : List (Addr × Obj)} {σ : L2.St} {H : Hp} {s : Shared} {vs : List V} {us : List Value} {Q : VK} (F : FnOk X.prog X.w X.K X.mg X.base CX0 k f fd ps sp) (B : Binds X.K fd ps []) (hr : Room k X.A)
    (I : Inv X pins σ H s) (r : Vals vs us) (same : us.length = vs.length) (h : sp vs H Q E0) : wpAny (model X.prog X.w) X.A (call (.ref f) us) (EP X pins σ Q) X.xe s := by
  have given := B s us I.kIn
  rw [List.append_nil] at given
  refine wpAny_call (codeAny_mono (F.run X.A X.stack s H ⟨us, []⟩ us vs _ E0 hr I.env0 (given (same.trans (F.len _ _ _ _ h))) r h) fun out s1 z => ?_)
  match out, z with
  | .ok (.ret _), z => exact I.after z
  | .error _, z => exact pass0 pins σ H s _ s1 I z
  | .ok .next, z => exact z.elim
  | .ok .brk, z => exact z.elim
  | .ok .cont, z => exact z.elim
theorem op_ownEq (c : Own X.prog X.w X.K X.mg X.base k C "__eq__" sp) (hr : Room j X.A) (hk : k ≤ j := by omega) : OpR X (compareOp .Eq) (rOwn C sp) := by
  rintro pins s σ H _ _ v u Q I rx ry ⟨a, b, dx, dy, fs, gs, rfl, rfl, ha, hb, hsp⟩
  obtain ⟨f, fd, ps, F, hs, hf, B⟩ := c
  cases rx
  cases ry
  obtain ⟨_, ia, _⟩ := ins_get I.hok ha
  obtain ⟨_, ib, _⟩ := ins_get I.hok hb
  obtain ⟨_, la, _⟩ := ia.look
  obtain ⟨_, lb, _⟩ := ib.look
  have un := (hr.mono hk).un
  refine PySem.W.cmp_K (op := .Eq) (tb := .ref C) (by omega) I.fr.choose_spec I.ok.mod.kin la lb.type (by simp [PySem.W.notFirst]) hs hf (thn (ask_def (vs := [.ref a, .ref b]) F B (hr.mono hk) I (.cons rfl (.cons rfl .nil)) rfl hsp) fun r s1 z => ?_)
  obtain ⟨z, H1, I1, rz, q⟩ := z
  have some := not_ni rz
  cases r <;> first | exact absurd rfl some | exact ⟨z, H1, I1, rz, q⟩
end
/-- a sequence as it stands in a block -/
theorem pi_seqA' {X : Cx} {K : PySem.W.Frag} {tg l : Expr} {tl : TE} (hK : X.K = K) (hl : PE X l tl) : PI X tg l (iSeqA K tl) := by subst hK; exact pi_seqA hl
end RM

set_option Elab.async false
set_option linter.all false
set_option maxRecDepth 100000
set_option maxHeartbeats 2000000
/-! own + of two own classes -/
namespace RM
open PySem PySem.Spec PyProof.Rows L2
section
open PySem.W
variable {M : Model} {h : Heap} {K : Frag} {C f : Addr} {nm : String} {r : Option Value}
/-- the class's slot is a def -/
theorem slot_def (X : K.In h) (hs : findIn K (.ref C) (PySem.dunder nm) = some (some (.ref f))) (hr : findIn K (.ref C) (dunderR nm) = some r) (rr : r = none ∨ ∃ g, r = some (.ref g)) : Looks M h (numberSlotInPython (.ref C) nm) true := by
  intro A Q E s k q
  unfold numberSlotInPython
  refine wpAny_bind (looks_findIn X hs A _ E s k ?_)
  refine wpAny_bind (wpAny_pure ?_)
  refine wpAny_bind (looks_findIn X hr A _ E s k ?_)
  rcases rr with rfl | ⟨g, rfl⟩
  · exact wpAny_bind (wpAny_pure (by rw [if_pos (by rfl)]; exact wpAny_pure q))
  · exact wpAny_bind (wpAny_pure (by rw [if_pos (by rfl)]; exact wpAny_pure q))
theorem self_first (hc : selfFirst K C = true) : ∃ cd rest, clsIn K C = some cd ∧ cd.mro = .ref C :: rest := by
  unfold selfFirst at hc
  cases e : clsIn K C with
  | none => rw [e] at hc; cases hc
  | some cd =>
    rw [e] at hc
    cases q : cd.mro with
    | nil => simp [q] at hc
    | cons a r =>
      have : a = .ref C := by simpa [q] using hc
      exact ⟨cd, r, rfl, by rw [q, this]⟩
theorem binop_two {prog : Program} {w : World} {A : Around} {E : Value → Shared → Prop} {s : Shared} {x L D fD : Addr} {h₀ : Heap} {m : Str → Option Value} {ox : Obj} {od : Option Obj} {b : Value} {rC rD : Option Value} {Q : Value → Shared → Prop}
    (F : Fr h₀ L s.heap m) (X₀ : K.In h₀) (I : InstAt s.heap x ox C od) (hb : Looks (model prog w) s.heap (typeOf b) (.ref D)) (hne : D ≠ C) (hc : selfFirst K C = true) (hd : selfFirst K D = true) (hs : findIn K (.ref C) (PySem.dunder "add") = some (some (.ref f)))
    (hf : isFn K (.ref f) = true) (hsD : findIn K (.ref D) (PySem.dunder "add") = some (some (.ref fD))) (hrC : findIn K (.ref C) (dunderR "add") = some rC) (hrD : findIn K (.ref D) (dunderR "add") = some rD) (rC' : rC = none ∨ ∃ g, rC = some (.ref g)) (rD' : rD = none ∨ ∃ g, rD = some (.ref g))
    (sub : subIn K (.ref D) (.ref C) = some false) (h : wpAny (model prog w) A (call (.ref f) [.ref x, b]) (PySem.W.CmpBack Q) E s) : wpAny (model prog w) A (binaryOp .Add (.ref x) b) Q E s := by
  have X := X₀.keeps F.keep
  obtain ⟨cd, rest, hcd, hm⟩ := self_first hc
  obtain ⟨dd, rest2, hdd, hm2⟩ := self_first hd
  unfold binaryOp
  refine wpAny_holding (wpAny_bind ?_)
  unfold binaryOp1
  refine wpAny_bind (I.type.here (wpAny_bind (hb.here (wpAny_bind ((fills_K X hcd hm hs).here ?_)))))
  have nb : (Value.ref C == Value.ref D) = false := by simpa using fun e => hne e.symm
  simp only [nb, Bool.false_eq_true, if_false]
  refine wpAny_bind ((fills_K X hdd hm2 hsD).here ?_)
  simp only [Bool.and_self, if_true]
  refine wpAny_bind ((looks_subIn X sub).here ?_)
  simp only [Bool.false_eq_true, if_false, Bool.not_false, Bool.and_self, if_true]
  refine wpAny_bind ((slot_def X hs hrC rC').here ?_)
  simp only [if_true]
  refine wpAny_bind ((slot_def X hsD hrD rD').here ?_)
  simp only [Bool.not_true, Bool.false_eq_true, if_false]
  refine wpAny_bind (m := tryMethod (.ref x) _ b) ?_
  unfold tryMethod
  refine wpAny_bind (special_fn X I hs (beq_iff_eq.mp hf) (wpAny_mono h (fun v s' hv => ?_) fun _ _ e => e))
  cases v <;> first | exact hv.elim | exact wpAny_pure (wpAny_pure (wpAny_pure hv))
end
/-- x + y, two own classes; E: what is wanted of an exception -/
def rAddX (C D : Addr) (sp : Sp) (E : XK) : R2 := fun x y H Q => ∃ a b dx dy fs gs, x = .ref a ∧ y = .ref b ∧ H a = some (.ins C dx fs) ∧ H b = some (.ins D dy gs) ∧ sp [x, y] H Q E
/-- an own special method that may raise -/
def OwnX (P : Program) (w : World) (K : PySem.W.Frag) (mg : Str → Option Value) (base : Heap) (k : Nat) (C : Addr) (m : Str) (sp : Sp) : Prop :=
  ∃ (f : Addr) (fd : FuncData) (ps : List Str), FnOk P w K mg base (L2.CX P w) k f fd ps sp ∧ PySem.W.findIn K (.ref C) m = some (some (.ref f)) ∧ PySem.W.isFn K (.ref f) = true ∧ Binds K fd ps []
theorem own_X {P : Program} {w : World} {K : PySem.W.Frag} {mg : Str → Option Value} {base : Heap} {k : Nat} {m x : Str} {sp : Sp} {qual : Str} {st : Stmt} {N ps : List Str} (F : ∃ fd, FunD K m qual (defArgs st) (defBody st) (defScope st) [] [] (He.ma K (He.ga K x) m) fd) (hs : spcB K x m = true) (S : FnScope N ps (defScope st))
    (hb : ∀ (kV doc pm : Value) (an : Option Addr) (cdv ct : Value) (us : List Value), us.length = ps.length → bindArgs (PySem.W.fnOf m qual (defArgs st) (defBody st) (defScope st) .none kV doc pm an cdv ct) ⟨us, []⟩ = pure (ps.zip us))
    (len : ∀ vs H Q E, sp vs H Q E → vs.length = ps.length) (h : BodyX P w K mg base N qual st (He.ma K (He.ga K x) m) k sp) : OwnX P w K mg base (k + 1) (He.ga K x) m sp :=
  let ⟨fd, F⟩ := F
  ⟨_, fd, ps, F.ok S len h, (spcB_ok hs).1, (spcB_ok hs).2, F.bindsN hb⟩
theorem radd_of {K : PySem.W.Frag} {x : Str} (h : (He.eqO (PySem.W.findIn K (.ref (He.ga K x)) "__radd__") (some none) || spcB K x "__radd__") = true) :
    ∃ r, PySem.W.findIn K (.ref (He.ga K x)) (dunderR "add") = some r ∧ (r = none ∨ ∃ g, r = some (.ref g)) := by
  rcases Bool.or_eq_true_iff.mp h with h | h
  · exact ⟨none, He.eqO_ok h, .inl rfl⟩
  · exact ⟨_, (spcB_ok h).1, .inr ⟨_, rfl⟩⟩
theorem op_addX {X : Cx} {k j : Nat} {x y : Str} {sp : Sp} {E : XK} (two : twoB X.K x y = true) (c : OwnX X.prog X.w X.K X.mg X.base k (He.ga X.K x) "__add__" sp) (hx : Passes (L2.CX X.prog X.w) X E) (hr : Room j X.A) (hk : k ≤ j := by omega) :
    OpR X (binaryOp .Add) (rAddX (He.ga X.K x) (He.ga X.K y) sp E) := by
  rintro pins s σ H _ _ v u Q I rx ry ⟨a, b, dx, dy, fs, gs, rfl, rfl, ha, hb, hsp⟩
  obtain ⟨f, fd, ps, F, hs, hf, B⟩ := c
  obtain ⟨t1, two⟩ := He.ba two
  obtain ⟨t2, two⟩ := He.ba two
  obtain ⟨t3, two⟩ := He.ba two
  obtain ⟨t4, two⟩ := He.ba two
  obtain ⟨t5, two⟩ := He.ba two
  obtain ⟨t6, two⟩ := He.ba two
  obtain ⟨t7, t8⟩ := He.ba two
  obtain ⟨rC, hrC, kC⟩ := radd_of t7
  obtain ⟨rD, hrD, kD⟩ := radd_of t8
  cases rx
  cases ry
  obtain ⟨_, ia, _⟩ := ins_get I.hok ha
  obtain ⟨_, ib, _⟩ := ins_get I.hok hb
  obtain ⟨_, la, _⟩ := ia.look
  obtain ⟨_, lb, _⟩ := ib.look
  refine binop_two I.fr.choose_spec I.ok.mod.kin la lb.type (of_decide_eq_true t3) t1 t2 hs hf (spcB_ok t5).1 hrC hrD kC kD (of_decide_eq_true t6) ?_
  refine thn (run_fn (vs := [.ref a, .ref b]) (dvs := []) (ds := []) F (hr.mono hk) B .nil hx I (.cons rfl (.cons rfl .nil)) hsp) fun r s1 z => ?_
  obtain ⟨z, H1, I1, rz, q⟩ := z
  have some := not_ni rz
  cases r <;> first | exact absurd rfl some | exact ⟨z, H1, I1, rz, q⟩
end RM

set_option Elab.async false
set_option linter.all false
set_option maxRecDepth 100000
set_option maxHeartbeats 2000000
/-! properties that give out a list anew; defaults that are empty tuples -/
namespace RM
open PySem PySem.Spec PyProof.Rows L2
def getSc : Scope := ⟨.function, [("self", .local), ("list", .globalImplicit)], false, false, []⟩
/-- def f(self): return list(self.u) -/
def lgB (K : PySem.W.Frag) (u : Str) : FuncData → Bool
  | ⟨_, q, ⟨[], [⟨s1, none, _⟩], none, [], [], none, []⟩, .stmts [.Return (some (.Call (.Name l _) [.Attribute (.Name s _) f _] [] _)) _], sc, gl, [], .none, _, _, _, _, cd, _, bl⟩ =>
    decide (s1 = "self") && (decide (l = "list") && (decide (s = "self") && (decide (f = u) && (decide (sc = getSc) && (decide (gl = mainGlobals) && (decide (bl = builtinsNs) && PySem.W.codeIn K cd q))))))
  | _ => false
/-- the getter of the property at p -/
def prpG (K : PySem.W.Frag) (p : Addr) : Addr := match PySem.W.recIn K p "property" with
  | some (.ref g :: _) => g
  | _ => 0
def prpB (K : PySem.W.Frag) (x f u : Str) : Bool :=
  let p := He.ma K (He.ga K x) f
  He.eqO (PySem.W.findIn K (.ref (He.ga K x)) f) (some (some (.ref p))) && (He.eqO (PySem.W.specialIn K (.ref p) "__get__") (some (some (.builtin "property.__get__"))) && (decide (PySem.W.takesIn K (.ref p) = some true) &&
    ((match PySem.W.recIn K p "property" with | some (.ref g :: _) => decide (g = prpG K p) | _ => false) && (match K.lookup (prpG K p) with | some ⟨_, _, .func fd, _⟩ => lgB K u fd | _ => false))))
/-- what the getter gives: a new list of what stands in the field -/
def spLget (K : PySem.W.Frag) (C : Addr) (u : Str) : Sp := fun vs H Q _ => match vs with
  | [x] => ∃ a dx fs l xs, x = .ref a ∧ H a = some (.ins C dx fs) ∧ fs.lookup u = some (.ref l) ∧ SqL K H l xs ∧ ∀ p, H p = none → Q (.ref p) (upd H p (.lst xs))
  | _ => False
theorem prpB_ok {P : Program} {w : World} {K : PySem.W.Frag} {mg : Str → Option Value} {base : Heap} {x f u : Str} (h : prpB K x f u = true) (c : Cls K (He.ga K x)) (n : NoAttr K (He.ga K x) u) (hl : mg "list" = none) :
    ∃ p g fd, PropOf K (He.ga K x) f p g ∧ FnOk P w K mg base CX0 1 g fd ["self"] (spLget K (He.ga K x) u) ∧ Binds K fd ["self"] [] := by
  obtain ⟨h1, h⟩ := He.ba h
  obtain ⟨h2, h⟩ := He.ba h
  obtain ⟨h3, h⟩ := He.ba h
  obtain ⟨h4, h5⟩ := He.ba h
  have P1 : PropOf K (He.ga K x) f (He.ma K (He.ga K x) f) (prpG K (He.ma K (He.ga K x) f)) := by
    refine ⟨He.eqO_ok h1, He.eqO_ok h2, of_decide_eq_true h3, ?_⟩
    split at h4
    · rename_i g rest e
      rw [← of_decide_eq_true h4]
      exact ⟨rest, e⟩
    · cases h4
  split at h5
  case h_2 => cases h5
  case h_1 oc od fd osl lk =>
    unfold lgB at h5
    split at h5
    case h_2 => cases h5
    case h_1 nm q s1 ap l p0 s p1 ff p2 p3 p4 sc gl kd dc pm an cd ct bl =>
      obtain ⟨e1, h6⟩ := He.ba h5
      obtain ⟨e2, h6⟩ := He.ba h6
      obtain ⟨e3, h6⟩ := He.ba h6
      obtain ⟨e4, h6⟩ := He.ba h6
      obtain ⟨e5, h6⟩ := He.ba h6
      obtain ⟨e6, h6⟩ := He.ba h6
      obtain ⟨e7, e8⟩ := He.ba h6
      replace e1 := of_decide_eq_true e1
      replace e2 := of_decide_eq_true e2
      replace e3 := of_decide_eq_true e3
      replace e4 := of_decide_eq_true e4
      replace e5 := of_decide_eq_true e5
      replace e6 := of_decide_eq_true e6
      replace e7 := of_decide_eq_true e7
      subst e1 e2 e3 e4 e5 e6 e7
      refine ⟨_, _, _, P1, fn_of (N := ["self"]) lk e8 ⟨rfl, rfl, rfl, by decide +kernel, rfl, by decide +kernel, by decide +kernel⟩ (fun vs H Q E h => match vs, h with | [_], _ => rfl) (fun A outer s H vs Q E hr h => ?_), ?_⟩
      · match vs, h with
        | [x], h =>
        obtain ⟨a, dx, fs, l, xs, rfl, ha, hf, hs, q⟩ := h
        refine ⟨_, (pss_one (ps_ret (pct hl call_list_of boot_list (pa_cons (pe_fld (pv 0) rfl) pa_nil)))), ?_⟩
        exact ⟨_, rfl, a, _, dx, _, _, rfl, ha, c, n, hf, l, xs, rfl, .inl hs, fun p hp => q p hp⟩
      · exact .all fun us hl => match us, hl with | [_], _ => rfl
theorem empB_ok {K : PySem.W.Frag} {a : Addr} (h : empB K a = true) (H : Hp) : SqT K H a [] := by
  unfold empB at h
  split at h
  case h_2 => cases h
  case h_1 c dd its n sl lk =>
    obtain ⟨h1, h2⟩ := He.ba h
    have e := of_decide_eq_true h2
    have e2 : its = #[] := Array.eq_empty_of_size_eq_zero e
    exact .inr ⟨_, its, n, lk, congrArg Value.type (of_decide_eq_true h1), rfl, by rw [e]; exact Nat.zero_le _, by rw [e2]; exact Paired.nil⟩
theorem pe_prp {X : Cx} {K : PySem.W.Frag} {x f u : Str} {e : Expr} {pos : Pos} {ta : TE} {j : Nat} (hK : X.K = K) (h : prpB K x f u = true) (c : Cls K (He.ga K x)) (n : NoAttr K (He.ga K x) u) (hl : X.mg "list" = none) (hr : Room j X.A) (he : PE X e ta)
    (hab : attributeBase e f X.env (eval e X.env) = eval e X.env) (hk : 2 ≤ j := by omega) : PE X (.Attribute e f pos) (tProp (He.ga K x) (spLget K (He.ga K x) u) [] E0 ta) := by
  subst hK
  obtain ⟨p, g, fd, P1, F, B⟩ := prpB_ok (P := X.prog) (w := X.w) (base := X.base) h c n hl
  exact pe_prop he c P1 F (hr.mono hk) B .nil (fun _ _ _ _ _ _ _ h => h.elim) hab
end RM

set_option Elab.async false
set_option linter.all false
set_option maxRecDepth 100000
set_option maxHeartbeats 2000000
/-! own special methods: in, [], len, +=, [] =, + of one class -/
namespace RM
open PySem PySem.Spec PyProof.Rows L2
section
variable (P : Program) (w : World) (K : PySem.W.Frag) (mg : Str → Option Value) (base : Heap) (CX : CXT)
/-- an own special method, whatever it lets out -/
def OwnC (k : Nat) (C : Addr) (m : Str) (sp : Sp) : Prop :=
  ∃ (f : Addr) (fd : FuncData) (ps : List Str), FnOk P w K mg base CX k f fd ps sp ∧ PySem.W.findIn K (.ref C) m = some (some (.ref f)) ∧ PySem.W.isFn K (.ref f) = true ∧ Binds K fd ps [] ∧ PySem.W.fnIn K f = true
end
section
variable {P : Program} {w : World} {K : PySem.W.Frag} {mg : Str → Option Value} {base : Heap} {k : Nat} {m x : Str} {C : Addr} {sp : Sp} {CX : CXT}
theorem fn_in {q : Str} {ar : Arguments} {bd : List Stmt} {sc : Scope} {dv : List V} {kw : List (Str × V)} {f : Addr} {fd : FuncData} (F : FunD K m q ar bd sc dv kw f fd) : PySem.W.fnIn K f = true := by
  obtain ⟨_, _, _, _, _, _, _, _, _, _, _, lk, _⟩ := F.ex
  unfold PySem.W.fnIn
  rw [lk]
theorem own_C0 {qual : Str} {st : Stmt} {N ps : List Str} (F : ∃ fd, FunD K m qual (defArgs st) (defBody st) (defScope st) [] [] (He.ma K (He.ga K x) m) fd) (hs : spcB K x m = true) (S : FnScope N ps (defScope st))
    (hb : ∀ (kV doc pm : Value) (an : Option Addr) (cdv ct : Value) (us : List Value), us.length = ps.length → bindArgs (PySem.W.fnOf m qual (defArgs st) (defBody st) (defScope st) .none kV doc pm an cdv ct) ⟨us, []⟩ = pure (ps.zip us))
    (len : ∀ vs H Q E, sp vs H Q E → vs.length = ps.length) (h : Body0 P w K mg base N qual st (He.ma K (He.ga K x) m) k sp) : OwnC P w K mg base CX0 (k + 1) (He.ga K x) m sp :=
  let ⟨fd, F⟩ := F
  ⟨_, fd, ps, fn_0 F S len h, (spcB_ok hs).1, (spcB_ok hs).2, F.bindsN hb, fn_in F⟩
theorem own_CX {qual : Str} {st : Stmt} {N ps : List Str} (F : ∃ fd, FunD K m qual (defArgs st) (defBody st) (defScope st) [] [] (He.ma K (He.ga K x) m) fd) (hs : spcB K x m = true) (S : FnScope N ps (defScope st))
    (hb : ∀ (kV doc pm : Value) (an : Option Addr) (cdv ct : Value) (us : List Value), us.length = ps.length → bindArgs (PySem.W.fnOf m qual (defArgs st) (defBody st) (defScope st) .none kV doc pm an cdv ct) ⟨us, []⟩ = pure (ps.zip us))
    (len : ∀ vs H Q E, sp vs H Q E → vs.length = ps.length) (h : BodyX P w K mg base N qual st (He.ma K (He.ga K x) m) k sp) : OwnC P w K mg base (L2.CX P w) (k + 1) (He.ga K x) m sp :=
  let ⟨fd, F⟩ := F
  ⟨_, fd, ps, F.ok S len h, (spcB_ok hs).1, (spcB_ok hs).2, F.bindsN hb, fn_in F⟩
/-- nothing is let out where nothing is wished of it -/
theorem fn_calm {f : Addr} {fd : FuncData} {ps : List Str} (F : FnOk P w K mg base (L2.CX P w) k f fd ps sp) : FnOk P w K mg base CX0 k f fd ps (fun vs H Q _ => sp vs H Q E0) := by
  refine ⟨fun vs H Q E h => F.len vs H Q E0 h, fun A outer s H args us vs Q E hr e0 hb r h => ?_⟩
  refine codeAny_mono (F.run A outer s H args us vs Q E0 hr e0 hb r h) fun out s1 z => ?_
  match out, z with
  | .ok (.ret _), z => exact z
  | .ok .next, z => exact z
  | .ok .brk, z => exact z
  | .ok .cont, z => exact z
  | .error e, z =>
    obtain ⟨_, _, _, _, _, _, _, _, _, _, _, _, no⟩ := z
    exact no.elim
theorem Cal.calm {x : Str} (c : Cal P w K mg base (L2.CX P w) k x sp) : Cal P w K mg base CX0 k x (fun vs H Q _ => sp vs H Q E0) := let ⟨f, fd, ps, F, a, b, d⟩ := c; ⟨f, fd, ps, fn_calm F, a, b, d⟩
theorem Met.calm (c : Met P w K mg base (L2.CX P w) k C m sp) : Met P w K mg base CX0 k C m (fun vs H Q _ => sp vs H Q E0) := let ⟨f, fd, ps, a, b, F, d⟩ := c; ⟨f, fd, ps, a, b, fn_calm F, d⟩
theorem Mak.calm {x : Str} (c : Mak P w K mg base (L2.CX P w) k x C sp) : Mak P w K mg base CX0 k x C (fun vs H Q _ => sp vs H Q E0) := let ⟨f, fd, ps, a, F, b, d⟩ := c; ⟨f, fd, ps, a, fn_calm F, b, d⟩
theorem OwnC.calm (c : OwnC P w K mg base (L2.CX P w) k C m sp) : OwnC P w K mg base CX0 k C m (fun vs H Q _ => sp vs H Q E0) := let ⟨f, fd, ps, F, a⟩ := c; ⟨f, fd, ps, fn_calm F, a⟩
theorem OwnX.calm (c : OwnX P w K mg base k C m sp) : Own P w K mg base k C m (fun vs H Q _ => sp vs H Q E0) := let ⟨f, fd, ps, F, a⟩ := c; ⟨f, fd, ps, fn_calm F, a⟩
end
section
variable {X : Cx} {CX : CXT} {k j : Nat} {C : Addr} {sp : Sp} {E : XK}
/-- a def called one level in -/
theorem ask_in1 {f : Addr} {fd : FuncData} {ps : List Str} {pins : List (Addr × Obj)} {σ : L2.St} {H : Hp} {s : Shared} {vs : List V} {us : List Value} {Q : VK} (F : FnOk X.prog X.w X.K X.mg X.base CX k f fd ps sp) (B : Binds X.K fd ps []) (hr : Room (k + 1) X.A) (hx : Passes CX X E)
    (I : Inv X pins σ H s) (r : Vals vs us) (h : sp vs H Q E) : wpAny (model X.prog X.w) X.A.in1 (call (.ref f) us) (EP X pins σ Q) X.xe s := by
  have len : us.length = ps.length := by rw [← r.length]; exact F.len _ _ _ _ h
  have given := B s us I.kIn (by rw [List.append_nil]; exact len)
  rw [List.append_nil] at given
  refine wpAny_call (codeAny_mono (F.run X.A.in1 X.stack s H ⟨us, []⟩ us vs Q E hr.in1 I.env0.in1 given r h) fun out s1 z => ?_)
  match out, z with
  | .ok (.ret _), z => exact I.after z
  | .error e, z => exact hx pins σ H s e s1 I z
  | .ok .next, z => exact z.elim
  | .ok .brk, z => exact z.elim
  | .ok .cont, z => exact z.elim
/-- x in y, y of an own class -/
def rInO (C : Addr) (sp : Sp) (E : XK) (neg : Bool) : R2 := fun x y H Q => ∃ b dy gs, y = .ref b ∧ H b = some (.ins C dy gs) ∧ sp [y, x] H (fun v H' => ∃ c, v = .bl c ∧ Q (.bl (if neg then !c else c)) H') E
theorem op_inO (c : OwnC X.prog X.w X.K X.mg X.base CX k C "__contains__" sp) (hx : Passes CX X E) (hr : Room j X.A) (hk : k ≤ j := by omega) : OpR X (compareOp .In) (rInO C sp E false) := by
  rintro pins s σ H x _ v u Q I rx ry ⟨b, dy, gs, rfl, hb, h⟩
  obtain ⟨f, fd, ps, F, hs, hf, B, _⟩ := c
  cases ry
  obtain ⟨_, ib, _⟩ := ins_get I.hok hb
  obtain ⟨_, lb, _⟩ := ib.look
  refine PySem.W.in_K I.fr.choose_spec I.ok.mod.kin lb hs hf (thn (run_fn (vs := [.ref b, x]) (dvs := []) (ds := []) F (hr.mono hk) B .nil hx I (.cons rfl (.cons rx .nil)) h) fun r s1 z => ?_)
  obtain ⟨_, H1, I1, rz, c, rfl, q⟩ := z
  cases rz
  exact wpAny_truthy_bool ⟨.bl c, H1, I1, rfl, q⟩
theorem op_ninO (c : OwnC X.prog X.w X.K X.mg X.base CX k C "__contains__" sp) (hx : Passes CX X E) (hr : Room j X.A) (hk : k ≤ j := by omega) : OpR X (compareOp .NotIn) (rInO C sp E true) := by
  rintro pins s σ H x _ v u Q I rx ry ⟨b, dy, gs, rfl, hb, h⟩
  obtain ⟨f, fd, ps, F, hs, hf, B, _⟩ := c
  cases ry
  obtain ⟨_, ib, _⟩ := ins_get I.hok hb
  obtain ⟨_, lb, _⟩ := ib.look
  refine PySem.W.notIn_K I.fr.choose_spec I.ok.mod.kin lb hs hf (thn (run_fn (vs := [.ref b, x]) (dvs := []) (ds := []) F (hr.mono hk) B .nil hx I (.cons rfl (.cons rx .nil)) h) fun r s1 z => ?_)
  obtain ⟨_, H1, I1, rz, c, rfl, q⟩ := z
  cases rz
  exact wpAny_truthy_bool ⟨.bl (!c), H1, I1, rfl, q⟩
/-- a[b], a of an own class -/
def tGetO (C : Addr) (sp : Sp) (E : XK) (ta tb : TE) : TE := fun σ H Q => ta σ H fun x H1 => tb σ H1 fun y H2 => ∃ a dx fs, x = .ref a ∧ H2 a = some (.ins C dx fs) ∧ sp [x, y] H2 Q E
theorem pe_getO {a b : Expr} {ta tb : TE} {pos : Pos} (c : OwnC X.prog X.w X.K X.mg X.base CX k C "__getitem__" sp) (hx : Passes CX X E) (hr : Room j X.A) (ha : PE X a ta) (hb : PE X b tb) (hk : k + 1 ≤ j := by omega)
    (hsl : ∀ v u, subscripted b true v u = runValue (.builtin "lifetime.subscript" ⟨[v, u], []⟩) := by intro _ _; rfl) : PE X (.Subscript a b pos) (tGetO C sp E ta tb) := by
  obtain ⟨f, fd, ps, F, hs, hf, B, hn⟩ := c
  refine ⟨fun pins s σ H Q I h => ?_⟩
  refine Subscript_ (thn (ha.run pins s σ H _ I h) fun v s1 ⟨x, H1, I1, rx, h1⟩ => thn (hb.run pins s1 σ H1 _ I1 h1) fun u s2 ⟨y, H2, I2, ry, h2⟩ => ?_)
  obtain ⟨p, dx, fs, rfl, hp, h3⟩ := h2
  cases rx
  obtain ⟨_, ip, _⟩ := ins_get I2.hok hp
  obtain ⟨_, lp, _⟩ := ip.look
  exact PySem.W.sub_K I2.fr.choose_spec I2.ok.mod.kin lp hs hn hf (ask_in1 (vs := [.ref p, y]) F B (hr.mono hk) hx I2 (.cons rfl (.cons ry .nil)) h3) (hsl _ _)
/-- len(x), x of an own class -/
theorem call_lenO (c : OwnC X.prog X.w X.K X.mg X.base CX k C "__len__" sp) (hx : Passes CX X E) (hr : Room j X.A) (hk : k + 1 ≤ j := by omega) :
    CallR X (.builtin "len") (fun xs H Q => ∃ a dx fs, xs = [.ref a] ∧ H a = some (.ins C dx fs) ∧ sp [.ref a] H (fun v H' => ∃ n : Int, v = .int n ∧ 0 ≤ n ∧ n < 2 ^ 63 ∧ Q (.int n) H') E) := by
  rintro pins s σ H xs us Q I r ⟨a, dx, fs, rfl, ha, h⟩
  obtain ⟨f, fd, ps, F, hs, hf, B, _⟩ := c
  obtain rfl := Vals.ref1 r
  obtain ⟨_, ia, _⟩ := ins_get I.hok ha
  obtain ⟨_, la, _⟩ := ia.look
  refine PySem.W.len_K I.fr.choose_spec I.ok.mod.kin la hs hf (thn (ask_in1 (vs := [.ref a]) F B (hr.mono hk) hx I (.cons rfl .nil) h) fun r s1 z => ?_)
  obtain ⟨_, H1, I1, rz, n, rfl, n0, n1, q⟩ := z
  obtain ⟨t, rfl⟩ := rz
  exact ⟨⟨n0, n1⟩, .int n, H1, I1.tok _, ⟨_, rfl⟩, q⟩
/-- x += y, x of an own class -/
def rIadO (C : Addr) (sp : Sp) (E : XK) : R2 := fun x y H Q => ∃ a dx fs, x = .ref a ∧ H a = some (.ins C dx fs) ∧ sp [x, y] H Q E
theorem in_addO (c : OwnC X.prog X.w X.K X.mg X.base CX k C "__iadd__" sp) (sf : PySem.W.selfFirst X.K C = true) (hx : Passes CX X E) (hr : Room j X.A) (hk : k ≤ j := by omega) : InOp X .Add (rIadO C sp E) := by
  rintro pins s σ H _ y u v Q I rx ry ⟨a, dx, fs, rfl, ha, h⟩
  obtain ⟨f, fd, ps, F, hs, hf, B, _⟩ := c
  cases rx
  obtain ⟨_, ia, _⟩ := ins_get I.hok ha
  obtain ⟨_, la, _⟩ := ia.look
  refine PySem.W.ksp_inplace I.fr.choose_spec I.ok.mod.kin la sf hs hf (thn (run_fn (vs := [.ref a, y]) (dvs := []) (ds := []) F (hr.mono hk) B .nil hx I (.cons rfl (.cons ry .nil)) h) fun r s1 z => ?_)
  obtain ⟨z, H1, I1, rz, q⟩ := z
  have some := not_ni rz
  cases r <;> first | exact absurd rfl some | exact ⟨z, H1, I1, rz, q⟩
/-- x + y, both of one own class -/
def rAddS (C : Addr) (sp : Sp) (E : XK) : R2 := fun x y H Q => ∃ a b dx dy fs gs, x = .ref a ∧ y = .ref b ∧ H a = some (.ins C dx fs) ∧ H b = some (.ins C dy gs) ∧ sp [x, y] H Q E
theorem op_addS (c : OwnC X.prog X.w X.K X.mg X.base CX k C "__add__" sp) (sf : PySem.W.selfFirst X.K C = true) (hx : Passes CX X E) (hr : Room j X.A) (hk : k ≤ j := by omega) : OpR X (binaryOp .Add) (rAddS C sp E) := by
  rintro pins s σ H _ _ v u Q I rx ry ⟨a, b, dx, dy, fs, gs, rfl, rfl, ha, hb, h⟩
  obtain ⟨f, fd, ps, F, hs, hf, B, _⟩ := c
  cases rx
  cases ry
  obtain ⟨_, ia, _⟩ := ins_get I.hok ha
  obtain ⟨_, ib, _⟩ := ins_get I.hok hb
  obtain ⟨_, la, _⟩ := ia.look
  obtain ⟨_, lb, _⟩ := ib.look
  refine PySem.W.binop_K I.fr.choose_spec I.ok.mod.kin la lb.type sf hs hf (thn (run_fn (vs := [.ref a, .ref b]) (dvs := []) (ds := []) F (hr.mono hk) B .nil hx I (.cons rfl (.cons rfl .nil)) h) fun r s1 z => ?_)
  obtain ⟨z, H1, I1, rz, q⟩ := z
  have some := not_ni rz
  cases r <;> first | exact absurd rfl some | exact ⟨z, H1, I1, rz, q⟩
end
theorem two_first {K : PySem.W.Frag} {x y : Str} (h : twoB K x y = true) : PySem.W.selfFirst K (He.ga K x) = true ∧ PySem.W.selfFirst K (He.ga K y) = true := let ⟨a, b⟩ := He.ba h; ⟨a, (He.ba b).1⟩
theorem op_addG {X : Cx} {CX : CXT} {k j : Nat} {x y : Str} {sp : Sp} {E : XK} (two : twoB X.K x y = true) (c : ∃ (f : Addr) (fd : FuncData) (ps : List Str), FnOk X.prog X.w X.K X.mg X.base CX k f fd ps sp ∧ PySem.W.findIn X.K (.ref (He.ga X.K x)) "__add__" = some (some (.ref f)) ∧ PySem.W.isFn X.K (.ref f) = true ∧ Binds X.K fd ps []) (hx : Passes CX X E) (hr : Room j X.A) (hk : k ≤ j := by omega) :
    OpR X (binaryOp .Add) (rAddX (He.ga X.K x) (He.ga X.K y) sp E) := by
  rintro pins s σ H _ _ v u Q I rx ry ⟨a, b, dx, dy, fs, gs, rfl, rfl, ha, hb, hsp⟩
  obtain ⟨f, fd, ps, F, hs, hf, B⟩ := c
  obtain ⟨t1, two⟩ := He.ba two
  obtain ⟨t2, two⟩ := He.ba two
  obtain ⟨t3, two⟩ := He.ba two
  obtain ⟨t4, two⟩ := He.ba two
  obtain ⟨t5, two⟩ := He.ba two
  obtain ⟨t6, two⟩ := He.ba two
  obtain ⟨t7, t8⟩ := He.ba two
  obtain ⟨rC, hrC, kC⟩ := radd_of t7
  obtain ⟨rD, hrD, kD⟩ := radd_of t8
  cases rx
  cases ry
  obtain ⟨_, ia, _⟩ := ins_get I.hok ha
  obtain ⟨_, ib, _⟩ := ins_get I.hok hb
  obtain ⟨_, la, _⟩ := ia.look
  obtain ⟨_, lb, _⟩ := ib.look
  refine binop_two I.fr.choose_spec I.ok.mod.kin la lb.type (of_decide_eq_true t3) t1 t2 hs hf (spcB_ok t5).1 hrC hrD kC kD (of_decide_eq_true t6) ?_
  refine thn (run_fn (vs := [.ref a, .ref b]) (dvs := []) (ds := []) F (hr.mono hk) B .nil hx I (.cons rfl (.cons rfl .nil)) hsp) fun r s1 z => ?_
  obtain ⟨z, H1, I1, rz, q⟩ := z
  have some := not_ni rz
  cases r <;> first | exact absurd rfl some | exact ⟨z, H1, I1, rz, q⟩
end RM

set_option Elab.async false
set_option linter.all false
set_option maxRecDepth 100000
set_option maxHeartbeats 2000000
/-! x != y of an own class with == alone -/
namespace RM
open PySem PySem.Spec PyProof.Rows L2
section
open PySem.W
variable {prog : Program} {w : World} {A : Around} {E : Value → Shared → Prop} {s : Shared} {K : Frag} {x y C L f : Addr} {h₀ : Heap} {m : Str → Option Value} {ox : Obj} {od : Option Obj}
theorem check_ne {M : Model} {Q : Unit → Shared → Prop} (X : K.In s.heap) (I : InstAt s.heap x ox C od) (hsub : subIn K (.ref C) (.type "object") = some true) {b : Value} (hq : Q () s) :
    wpAny M A (checkBuiltinCall "object.__ne__" ⟨[.ref x, b], []⟩) Q E s := by
  have ha := F.cmpArgs_ne (.ref x) b
  simp only [checkBuiltinCall, F.cmpKind_ne, F.cmpSplit_ne]
  refine wpAny_bind ?_
  simp only [isInstance]
  refine wpAny_bind (I.type.here ((looks_subIn X hsub).here ?_))
  simp only [Bool.not_true, Bool.false_eq_true, if_false]
  cases hsig : Manifest.signature? "object.__ne__" with
  | none => exact wpAny_pure hq
  | some sig =>
    simp only [argsOk, hsig] at ha
    have h2 : Bind.checkArgs "object.__ne__" sig ⟨[.ref x, b], []⟩ = pure () := ha
    show wpAny M A (Bind.checkArgs "object.__ne__" sig ⟨[.ref x, b], []⟩) Q E _
    rw [h2]
    exact wpAny_pure hq
theorem objNe_own {Q : Fin → Shared → Prop} (X : K.In s.heap) (I : InstAt s.heap x ox C od) (he : findIn K (.ref C) "__eq__" = some (some (.ref f))) (hf : isFn K (.ref f) = true) (hu : A.units < cLine)
    (h : wpAny (model prog w) A (call (.ref f) [.ref x, .ref y]) (fun v s' => ∃ b, v = .bool b ∧ Q (.done (.ret (.bool (!b)))) s') E s) : wpAny (model prog w) A (Builtin.«object.__ne__» ⟨[.ref x, .ref y], []⟩) Q E s := by
  unfold Builtin.«object.__ne__»
  repeat (first
    | with_reducible refine wpAny_cRoomFor hu ?_
    | (refine wpAny_bind (m := callSpecialIfBound? (.ref x) (Str.ofString "__eq__") [.ref y]) (ifBound_K X I he hf (wpAny_mono h (fun r s' hr => by
          obtain ⟨b, rfl, hq⟩ := hr
          repeat (first | exact hq | exact wpAny_pure hq | exact wpAny_truthy_bool hq | (refine wpAny_bind (m := truthy (.bool _)) (wpAny_truthy_bool ?_)) | wp_step)) fun _ _ e => e)))
    | wp_step)
theorem ifBound_ne {Q : Option Value → Shared → Prop} (X : K.In s.heap) (I : InstAt s.heap x ox C od) (hs : findIn K (.ref C) "__ne__" = some (some (.builtin "object.__ne__")))
    (h : wpAny (model prog w) A (call (.builtin "object.__ne__") [.ref x, .ref y]) (fun v => Q (some v)) E s) : wpAny (model prog w) A (callSpecialIfBound? (.ref x) "__ne__" [.ref y]) Q E s := by
  simp only [callSpecialIfBound?, bindSpecialIfBound?]
  refine wpAny_holding (wpAny_bind (wpAny_bind (wpAny_bind (I.type.here ((looks_findIn X hs).here ?_)))))
  simp only [F.cmp_object.ne.bind]
  refine wpAny_bind (wpAny_askSetting (wpAny_ite ?_))
  have fin : wpAny (model prog w) A (call (.builtin "object.__ne__") ([.ref x] ++ [.ref y]) >>= fun v => pure (some v)) Q E s := wpAny_bind (wpAny_mono h (fun v s' h' => wpAny_pure h') fun _ _ h' => h')
  split
  · exact wpAny_bind (wpAny_pure (wpAny_pure (by exact fin)))
  · exact wpAny_tryCatch (wpAny_bind (wpAny_pure (wpAny_pure (by exact fin))))
theorem cmp_ne {Q : Value → Shared → Prop} (hu : A.units + 1 < cLine) (F : Fr h₀ L s.heap m) (X₀ : K.In h₀) (I : InstAt s.heap x ox C od) (hb : Looks (model prog w) s.heap (typeOf (.ref y)) (.ref C))
    (hs : findIn K (.ref C) "__ne__" = some (some (.builtin "object.__ne__"))) (he : findIn K (.ref C) "__eq__" = some (some (.ref f))) (hf : isFn K (.ref f) = true) (hsub : subIn K (.ref C) (.type "object") = some true)
    (h : wpAny (model prog w) A.in1 (call (.ref f) [.ref x, .ref y]) (fun v s' => ∃ b, v = .bool b ∧ Q (.bool (!b)) s') E s) : wpAny (model prog w) A (compareOp .NotEq (.ref x) (.ref y)) Q E s := by
  have X := X₀.keeps F.keep
  have one : wpAny (model prog w) A (tryCompare (.ref x) "__ne__" (.ref y)) (fun r s' => ∃ v, r = some v ∧ Q v s') E s := by
    unfold tryCompare
    refine wpAny_bind (ifBound_ne X I hs (wpAny_call (codeAny_call_builtin PySem.F.cmp_object.ne.plain PySem.F.cmpEntry_ne (check_ne X I hsub (objNe_own (A := A.in1) X I he hf hu (wpAny_mono h (fun v s' hv => ?_) fun _ _ e => e))))))
    obtain ⟨b, rfl, hq⟩ := hv
    first | exact ⟨b, rfl, wpAny_pure ⟨_, rfl, hq⟩⟩ | exact wpAny_pure ⟨_, rfl, hq⟩ | exact ⟨_, rfl, hq⟩
  unfold compareOp
  unfold richCompare
  simp only [oneThing_ref]
  refine wpAny_holding (wpAny_bind (wpAny_cRoomFor (Nat.lt_of_succ_lt hu) ?_))
  rw [cmpInfo_NotEq]
  dsimp only
  refine wpAny_bind (I.type.here (wpAny_bind (hb.here ?_)))
  rw [show (Value.ref C != Value.ref C) = false from by simp]
  simp only [Bool.false_eq_true, if_false]
  refine wpAny_bind (wpAny_pure ?_)
  simp only [Bool.false_eq_true, if_false]
  refine wpAny_bind (wpAny_mono one (fun r s' z => ?_) fun _ _ e => e)
  obtain ⟨v, rfl, hq⟩ := z
  exact wpAny_pure hq
end
def neB (K : PySem.W.Frag) (x : Str) : Bool := He.eqO (PySem.W.findIn K (.ref (He.ga K x)) "__ne__") (some (some (.builtin "object.__ne__"))) && decide (PySem.W.subIn K (.ref (He.ga K x)) (.type "object") = some true)
theorem neB_ok {K : PySem.W.Frag} {x : Str} (h : neB K x = true) : PySem.W.findIn K (.ref (He.ga K x)) "__ne__" = some (some (.builtin "object.__ne__")) ∧ PySem.W.subIn K (.ref (He.ga K x)) (.type "object") = some true :=
  let ⟨a, b⟩ := He.ba h
  ⟨He.eqO_ok a, of_decide_eq_true b⟩
/-- x != y, the two of one own class with == -/
def rOwnNe (C : Addr) (sp : Sp) : R2 := fun x y H Q => ∃ a b dx dy fs gs, x = .ref a ∧ y = .ref b ∧ H a = some (.ins C dx fs) ∧ H b = some (.ins C dy gs) ∧ sp [x, y] H (fun v H' => ∃ c, v = .bl c ∧ Q (.bl (!c)) H') E0
theorem op_ownNe {X : Cx} {k j : Nat} {x : Str} {sp : Sp} (n : neB X.K x = true) (c : Own X.prog X.w X.K X.mg X.base k (He.ga X.K x) "__eq__" sp) (hr : Room j X.A) (hk : k + 1 ≤ j := by omega) : OpR X (compareOp .NotEq) (rOwnNe (He.ga X.K x) sp) := by
  rintro pins s σ H _ _ v u Q I rx ry ⟨a, b, dx, dy, fs, gs, rfl, rfl, ha, hb, hsp⟩
  obtain ⟨f, fd, ps, F, hs, hf, B⟩ := c
  cases rx
  cases ry
  obtain ⟨_, ia, _⟩ := ins_get I.hok ha
  obtain ⟨_, ib, _⟩ := ins_get I.hok hb
  obtain ⟨_, la, _⟩ := ia.look
  obtain ⟨_, lb, _⟩ := ib.look
  have un := (hr.mono hk).un
  obtain ⟨n1, n2⟩ := neB_ok n
  refine cmp_ne (by omega) I.fr.choose_spec I.ok.mod.kin la lb.type n1 hs hf n2 (thn (ask_in1 (vs := [.ref a, .ref b]) F B (hr.mono hk) pass0 I (.cons rfl (.cons rfl .nil)) hsp) fun r s1 z => ?_)
  obtain ⟨z, H1, I1, rz, c, rfl, q⟩ := z
  cases rz
  exact ⟨c, rfl, .bl (!c), H1, I1, rfl, q⟩
end RM

set_option Elab.async false
set_option linter.all false
set_option maxRecDepth 100000
set_option maxHeartbeats 2000000
namespace RM
open PySem PySem.Spec PyProof.Rows L2
/-- what the top has left -/
structure Top (w : World) (K : PySem.W.Frag) (mg : Str → Option Value) : Prop where
  h : ∃ hp : Heap, K.In hp ∧ hp.Ns mainGlobals mg ∧ He.SaysX faL fnL tsL [] exB w hp K
section
variable {w : World} {K : PySem.W.Frag} {mg : Str → Option Value}
theorem Top.fa (T : Top w K mg) (i : Nat) {f : He.Fa} (h : faL[i]? = some f) : f.ok K = true := let ⟨_, _, _, c⟩ := T.h; c.t.d.fact i h
theorem Top.fd (T : Top w K mg) (i : Nat) {d : He.DefD} (h : fnL[i]? = some d) : ∃ fd, FunD K d.name d.qual d.params d.body d.scope (d.dvs K) (d.kws K) (He.fAd K d.at_) fd := let ⟨_, _, _, c⟩ := T.h; c.t.d.def_ i h
theorem g_is_word (T : Top w K mg) : mg "is_word" = some (.ref (He.ga K "is_word")) := let ⟨_, X, G, _⟩ := T.h; He.glo_ok X G (T.fa 0 rfl)
theorem g_is_value (T : Top w K mg) : mg "is_value" = some (.ref (He.ga K "is_value")) := let ⟨_, X, G, _⟩ := T.h; He.glo_ok X G (T.fa 1 rfl)
theorem g_checked (T : Top w K mg) : mg "checked" = some (.ref (He.ga K "checked")) := let ⟨_, X, G, _⟩ := T.h; He.glo_ok X G (T.fa 2 rfl)
theorem g_changed (T : Top w K mg) : mg "changed" = some (.ref (He.ga K "changed")) := let ⟨_, X, G, _⟩ := T.h; He.glo_ok X G (T.fa 3 rfl)
theorem g_is_item (T : Top w K mg) : mg "is_item" = some (.ref (He.ga K "is_item")) := let ⟨_, X, G, _⟩ := T.h; He.glo_ok X G (T.fa 4 rfl)
theorem g_is_statement (T : Top w K mg) : mg "is_statement" = some (.ref (He.ga K "is_statement")) := let ⟨_, X, G, _⟩ := T.h; He.glo_ok X G (T.fa 5 rfl)
theorem g_bodies_of (T : Top w K mg) : mg "bodies_of" = some (.ref (He.ga K "bodies_of")) := let ⟨_, X, G, _⟩ := T.h; He.glo_ok X G (T.fa 6 rfl)
theorem g_check_body (T : Top w K mg) : mg "check_body" = some (.ref (He.ga K "check_body")) := let ⟨_, X, G, _⟩ := T.h; He.glo_ok X G (T.fa 7 rfl)
theorem g_as_tuples (T : Top w K mg) : mg "as_tuples" = some (.ref (He.ga K "as_tuples")) := let ⟨_, X, G, _⟩ := T.h; He.glo_ok X G (T.fa 8 rfl)
theorem g_all_statements (T : Top w K mg) : mg "all_statements" = some (.ref (He.ga K "all_statements")) := let ⟨_, X, G, _⟩ := T.h; He.glo_ok X G (T.fa 9 rfl)
theorem g_depth_of (T : Top w K mg) : mg "depth_of" = some (.ref (He.ga K "depth_of")) := let ⟨_, X, G, _⟩ := T.h; He.glo_ok X G (T.fa 10 rfl)
theorem g_check_size (T : Top w K mg) : mg "check_size" = some (.ref (He.ga K "check_size")) := let ⟨_, X, G, _⟩ := T.h; He.glo_ok X G (T.fa 11 rfl)
theorem g_names_in (T : Top w K mg) : mg "names_in" = some (.ref (He.ga K "names_in")) := let ⟨_, X, G, _⟩ := T.h; He.glo_ok X G (T.fa 12 rfl)
theorem g_check_keys (T : Top w K mg) : mg "check_keys" = some (.ref (He.ga K "check_keys")) := let ⟨_, X, G, _⟩ := T.h; He.glo_ok X G (T.fa 13 rfl)
theorem g_check_schedule (T : Top w K mg) : mg "check_schedule" = some (.ref (He.ga K "check_schedule")) := let ⟨_, X, G, _⟩ := T.h; He.glo_ok X G (T.fa 14 rfl)
theorem g_run (T : Top w K mg) : mg "run" = some (.ref (He.ga K "run")) := let ⟨_, X, G, _⟩ := T.h; He.glo_ok X G (T.fa 15 rfl)
theorem g_frozen (T : Top w K mg) : mg "frozen" = some (.ref (He.ga K "frozen")) := let ⟨_, X, G, _⟩ := T.h; He.glo_ok X G (T.fa 16 rfl)
theorem g_free_names (T : Top w K mg) : mg "free_names" = some (.ref (He.ga K "free_names")) := let ⟨_, X, G, _⟩ := T.h; He.glo_ok X G (T.fa 17 rfl)
theorem g_replaced (T : Top w K mg) : mg "replaced" = some (.ref (He.ga K "replaced")) := let ⟨_, X, G, _⟩ := T.h; He.glo_ok X G (T.fa 18 rfl)
theorem g_with_reads (T : Top w K mg) : mg "with_reads" = some (.ref (He.ga K "with_reads")) := let ⟨_, X, G, _⟩ := T.h; He.glo_ok X G (T.fa 19 rfl)
theorem g_pinned (T : Top w K mg) : mg "pinned" = some (.ref (He.ga K "pinned")) := let ⟨_, X, G, _⟩ := T.h; He.glo_ok X G (T.fa 20 rfl)
theorem g_law_begin (T : Top w K mg) : mg "_law_begin" = some (.ref (He.ga K "_law_begin")) := let ⟨_, X, G, _⟩ := T.h; He.glo_ok X G (T.fa 21 rfl)
theorem g_law_draw (T : Top w K mg) : mg "_law_draw" = some (.ref (He.ga K "_law_draw")) := let ⟨_, X, G, _⟩ := T.h; He.glo_ok X G (T.fa 22 rfl)
theorem g_law_values (T : Top w K mg) : mg "_law_values" = some (.ref (He.ga K "_law_values")) := let ⟨_, X, G, _⟩ := T.h; He.glo_ok X G (T.fa 23 rfl)
theorem g_law_changes (T : Top w K mg) : mg "_law_changes" = some (.ref (He.ga K "_law_changes")) := let ⟨_, X, G, _⟩ := T.h; He.glo_ok X G (T.fa 24 rfl)
theorem g_law_variable (T : Top w K mg) : mg "_law_variable" = some (.ref (He.ga K "_law_variable")) := let ⟨_, X, G, _⟩ := T.h; He.glo_ok X G (T.fa 25 rfl)
theorem g_law_plain (T : Top w K mg) : mg "_law_plain" = some (.ref (He.ga K "_law_plain")) := let ⟨_, X, G, _⟩ := T.h; He.glo_ok X G (T.fa 26 rfl)
theorem g_law_body (T : Top w K mg) : mg "_law_body" = some (.ref (He.ga K "_law_body")) := let ⟨_, X, G, _⟩ := T.h; He.glo_ok X G (T.fa 27 rfl)
theorem g_law_size (T : Top w K mg) : mg "_law_size" = some (.ref (He.ga K "_law_size")) := let ⟨_, X, G, _⟩ := T.h; He.glo_ok X G (T.fa 28 rfl)
theorem g_law_prints (T : Top w K mg) : mg "_law_prints" = some (.ref (He.ga K "_law_prints")) := let ⟨_, X, G, _⟩ := T.h; He.glo_ok X G (T.fa 29 rfl)
theorem g_law_short (T : Top w K mg) : mg "_law_short" = some (.ref (He.ga K "_law_short")) := let ⟨_, X, G, _⟩ := T.h; He.glo_ok X G (T.fa 30 rfl)
theorem g_law_case (T : Top w K mg) : mg "_law_case" = some (.ref (He.ga K "_law_case")) := let ⟨_, X, G, _⟩ := T.h; He.glo_ok X G (T.fa 31 rfl)
theorem g_law_do (T : Top w K mg) : mg "_law_do" = some (.ref (He.ga K "_law_do")) := let ⟨_, X, G, _⟩ := T.h; He.glo_ok X G (T.fa 32 rfl)
theorem g_law_go (T : Top w K mg) : mg "_law_go" = some (.ref (He.ga K "_law_go")) := let ⟨_, X, G, _⟩ := T.h; He.glo_ok X G (T.fa 33 rfl)
theorem g_law_run (T : Top w K mg) : mg "_law_run" = some (.ref (He.ga K "_law_run")) := let ⟨_, X, G, _⟩ := T.h; He.glo_ok X G (T.fa 34 rfl)
theorem g_law_schedule (T : Top w K mg) : mg "_law_schedule" = some (.ref (He.ga K "_law_schedule")) := let ⟨_, X, G, _⟩ := T.h; He.glo_ok X G (T.fa 35 rfl)
theorem g_law_made (T : Top w K mg) : mg "_law_made" = some (.ref (He.ga K "_law_made")) := let ⟨_, X, G, _⟩ := T.h; He.glo_ok X G (T.fa 36 rfl)
theorem g_law_free (T : Top w K mg) : mg "_law_free" = some (.ref (He.ga K "_law_free")) := let ⟨_, X, G, _⟩ := T.h; He.glo_ok X G (T.fa 37 rfl)
theorem g_law_put (T : Top w K mg) : mg "_law_put" = some (.ref (He.ga K "_law_put")) := let ⟨_, X, G, _⟩ := T.h; He.glo_ok X G (T.fa 38 rfl)
theorem g_law_pinned (T : Top w K mg) : mg "_law_pinned" = some (.ref (He.ga K "_law_pinned")) := let ⟨_, X, G, _⟩ := T.h; He.glo_ok X G (T.fa 39 rfl)
theorem g_law_like (T : Top w K mg) : mg "_law_like" = some (.ref (He.ga K "_law_like")) := let ⟨_, X, G, _⟩ := T.h; He.glo_ok X G (T.fa 40 rfl)
theorem g_law (T : Top w K mg) : mg "law" = some (.ref (He.ga K "law")) := let ⟨_, X, G, _⟩ := T.h; He.glo_ok X G (T.fa 41 rfl)
theorem g_NoKey (T : Top w K mg) : mg "NoKey" = some (.ref (He.ga K "NoKey")) := let ⟨_, X, G, _⟩ := T.h; He.glo_ok X G (T.fa 42 rfl)
theorem g_BadSchedule (T : Top w K mg) : mg "BadSchedule" = some (.ref (He.ga K "BadSchedule")) := let ⟨_, X, G, _⟩ := T.h; He.glo_ok X G (T.fa 43 rfl)
theorem g_Change (T : Top w K mg) : mg "Change" = some (.ref (He.ga K "Change")) := let ⟨_, X, G, _⟩ := T.h; He.glo_ok X G (T.fa 44 rfl)
theorem g_Surroundings (T : Top w K mg) : mg "Surroundings" = some (.ref (He.ga K "Surroundings")) := let ⟨_, X, G, _⟩ := T.h; He.glo_ok X G (T.fa 45 rfl)
theorem g_Program (T : Top w K mg) : mg "Program" = some (.ref (He.ga K "Program")) := let ⟨_, X, G, _⟩ := T.h; He.glo_ok X G (T.fa 46 rfl)
theorem g_Outcome (T : Top w K mg) : mg "Outcome" = some (.ref (He.ga K "Outcome")) := let ⟨_, X, G, _⟩ := T.h; He.glo_ok X G (T.fa 47 rfl)
theorem g_Runner (T : Top w K mg) : mg "Runner" = some (.ref (He.ga K "Runner")) := let ⟨_, X, G, _⟩ := T.h; He.glo_ok X G (T.fa 48 rfl)
theorem z_all (T : Top w K mg) : mg "all" = none := let ⟨_, X, G, _⟩ := T.h; He.free_ok X G (T.fa 49 rfl)
theorem z_bool (T : Top w K mg) : mg "bool" = none := let ⟨_, X, G, _⟩ := T.h; He.free_ok X G (T.fa 50 rfl)
theorem z_dict (T : Top w K mg) : mg "dict" = none := let ⟨_, X, G, _⟩ := T.h; He.free_ok X G (T.fa 51 rfl)
theorem z_enumerate (T : Top w K mg) : mg "enumerate" = none := let ⟨_, X, G, _⟩ := T.h; He.free_ok X G (T.fa 52 rfl)
theorem z_int (T : Top w K mg) : mg "int" = none := let ⟨_, X, G, _⟩ := T.h; He.free_ok X G (T.fa 53 rfl)
theorem z_isinstance (T : Top w K mg) : mg "isinstance" = none := let ⟨_, X, G, _⟩ := T.h; He.free_ok X G (T.fa 54 rfl)
theorem z_len (T : Top w K mg) : mg "len" = none := let ⟨_, X, G, _⟩ := T.h; He.free_ok X G (T.fa 55 rfl)
theorem z_list (T : Top w K mg) : mg "list" = none := let ⟨_, X, G, _⟩ := T.h; He.free_ok X G (T.fa 56 rfl)
theorem z_max (T : Top w K mg) : mg "max" = none := let ⟨_, X, G, _⟩ := T.h; He.free_ok X G (T.fa 57 rfl)
theorem z_range (T : Top w K mg) : mg "range" = none := let ⟨_, X, G, _⟩ := T.h; He.free_ok X G (T.fa 58 rfl)
theorem z_sorted (T : Top w K mg) : mg "sorted" = none := let ⟨_, X, G, _⟩ := T.h; He.free_ok X G (T.fa 59 rfl)
theorem z_str (T : Top w K mg) : mg "str" = none := let ⟨_, X, G, _⟩ := T.h; He.free_ok X G (T.fa 60 rfl)
theorem z_sum (T : Top w K mg) : mg "sum" = none := let ⟨_, X, G, _⟩ := T.h; He.free_ok X G (T.fa 61 rfl)
theorem z_tuple (T : Top w K mg) : mg "tuple" = none := let ⟨_, X, G, _⟩ := T.h; He.free_ok X G (T.fa 62 rfl)
theorem z_zip (T : Top w K mg) : mg "zip" = none := let ⟨_, X, G, _⟩ := T.h; He.free_ok X G (T.fa 63 rfl)
theorem i_LETTERS (T : Top w K mg) : ∃ t, mg "LETTERS" = some (.str "abcdefghijklmnopqrstuvwxyz" t) := let ⟨_, X, G, _⟩ := T.h; He.str_ok X G (T.fa 64 rfl)
theorem i_LONGEST (T : Top w K mg) : ∃ t, mg "LONGEST" = some (.int 6 t) := let ⟨_, X, G, _⟩ := T.h; He.int_ok X G (T.fa 65 rfl)
theorem i_GREATEST (T : Top w K mg) : ∃ t, mg "GREATEST" = some (.int 99 t) := let ⟨_, X, G, _⟩ := T.h; He.int_ok X G (T.fa 66 rfl)
theorem i_MOST_surroundings (T : Top w K mg) : ∃ t, mg "MOST_surroundings" = some (.int 4 t) := let ⟨_, X, G, _⟩ := T.h; He.int_ok X G (T.fa 67 rfl)
theorem i_MOST_programs (T : Top w K mg) : ∃ t, mg "MOST_programs" = some (.int 60 t) := let ⟨_, X, G, _⟩ := T.h; He.int_ok X G (T.fa 68 rfl)
theorem i_DEEPEST (T : Top w K mg) : ∃ t, mg "DEEPEST" = some (.int 4 t) := let ⟨_, X, G, _⟩ := T.h; He.int_ok X G (T.fa 69 rfl)
theorem g_FORMS (T : Top w K mg) : mg "FORMS" = some (.ref (He.ga K "FORMS")) := let ⟨_, X, G, _⟩ := T.h; He.glo_ok X G (T.fa 70 rfl)
theorem k_Change (T : Top w K mg) : Cls K (He.ga K "Change") := He.cls_ok (T.fa 71 rfl)
theorem mk_Change (T : Top w K mg) : Mk K (He.ga K "Change") (He.ma K (He.ga K "Change") "__init__") := He.mkr_ok (T.fa 72 rfl)
theorem me_Change_settings (T : Top w K mg) : Meth K (He.ga K "Change") "settings" (He.ma K (He.ga K "Change") "settings") := He.meth_ok (T.fa 73 rfl)
theorem na_Change_given (T : Top w K mg) : NoAttr K (He.ga K "Change") "given" := He.noat_ok (T.fa 74 rfl)
theorem k_Surroundings (T : Top w K mg) : Cls K (He.ga K "Surroundings") := He.cls_ok (T.fa 75 rfl)
theorem mk_Surroundings (T : Top w K mg) : Mk K (He.ga K "Surroundings") (He.ma K (He.ga K "Surroundings") "__init__") := He.mkr_ok (T.fa 76 rfl)
theorem me_Surroundings_keys_of (T : Top w K mg) : Meth K (He.ga K "Surroundings") "keys_of" (He.ma K (He.ga K "Surroundings") "keys_of") := He.meth_ok (T.fa 77 rfl)
theorem me_Surroundings_state (T : Top w K mg) : Meth K (He.ga K "Surroundings") "state" (He.ma K (He.ga K "Surroundings") "state") := He.meth_ok (T.fa 78 rfl)
theorem na_Surroundings_now (T : Top w K mg) : NoAttr K (He.ga K "Surroundings") "now" := He.noat_ok (T.fa 79 rfl)
theorem k_Program (T : Top w K mg) : Cls K (He.ga K "Program") := He.cls_ok (T.fa 80 rfl)
theorem mk_Program (T : Top w K mg) : Mk K (He.ga K "Program") (He.ma K (He.ga K "Program") "__init__") := He.mkr_ok (T.fa 81 rfl)
theorem me_Program_reads (T : Top w K mg) : Meth K (He.ga K "Program") "reads" (He.ma K (He.ga K "Program") "reads") := He.meth_ok (T.fa 82 rfl)
theorem me_Program_keys_of (T : Top w K mg) : Meth K (He.ga K "Program") "keys_of" (He.ma K (He.ga K "Program") "keys_of") := He.meth_ok (T.fa 83 rfl)
theorem me_Program_variables (T : Top w K mg) : Meth K (He.ga K "Program") "variables" (He.ma K (He.ga K "Program") "variables") := He.meth_ok (T.fa 84 rfl)
theorem na_Program_body (T : Top w K mg) : NoAttr K (He.ga K "Program") "body" := He.noat_ok (T.fa 85 rfl)
theorem k_Outcome (T : Top w K mg) : Cls K (He.ga K "Outcome") := He.cls_ok (T.fa 86 rfl)
theorem mk_Outcome (T : Top w K mg) : Mk K (He.ga K "Outcome") (He.ma K (He.ga K "Outcome") "__init__") := He.mkr_ok (T.fa 87 rfl)
theorem na_Outcome_ended (T : Top w K mg) : NoAttr K (He.ga K "Outcome") "ended" := He.noat_ok (T.fa 88 rfl)
theorem na_Outcome_looked (T : Top w K mg) : NoAttr K (He.ga K "Outcome") "looked" := He.noat_ok (T.fa 89 rfl)
theorem na_Outcome_printed (T : Top w K mg) : NoAttr K (He.ga K "Outcome") "printed" := He.noat_ok (T.fa 90 rfl)
theorem na_Outcome_waits (T : Top w K mg) : NoAttr K (He.ga K "Outcome") "waits" := He.noat_ok (T.fa 91 rfl)
theorem na_Outcome_went (T : Top w K mg) : NoAttr K (He.ga K "Outcome") "went" := He.noat_ok (T.fa 92 rfl)
theorem k_Runner (T : Top w K mg) : Cls K (He.ga K "Runner") := He.cls_ok (T.fa 93 rfl)
theorem mk_Runner (T : Top w K mg) : Mk K (He.ga K "Runner") (He.ma K (He.ga K "Runner") "__init__") := He.mkr_ok (T.fa 94 rfl)
theorem me_Runner_wait (T : Top w K mg) : Meth K (He.ga K "Runner") "wait" (He.ma K (He.ga K "Runner") "wait") := He.meth_ok (T.fa 95 rfl)
theorem me_Runner_value_of (T : Top w K mg) : Meth K (He.ga K "Runner") "value_of" (He.ma K (He.ga K "Runner") "value_of") := He.meth_ok (T.fa 96 rfl)
theorem me_Runner_branch (T : Top w K mg) : Meth K (He.ga K "Runner") "branch" (He.ma K (He.ga K "Runner") "branch") := He.meth_ok (T.fa 97 rfl)
theorem me_Runner_statement (T : Top w K mg) : Meth K (He.ga K "Runner") "statement" (He.ma K (He.ga K "Runner") "statement") := He.meth_ok (T.fa 98 rfl)
theorem me_Runner_execute (T : Top w K mg) : Meth K (He.ga K "Runner") "execute" (He.ma K (He.ga K "Runner") "execute") := He.meth_ok (T.fa 99 rfl)
theorem na_Runner_choices (T : Top w K mg) : NoAttr K (He.ga K "Runner") "choices" := He.noat_ok (T.fa 100 rfl)
theorem na_Runner_held (T : Top w K mg) : NoAttr K (He.ga K "Runner") "held" := He.noat_ok (T.fa 101 rfl)
theorem na_Runner_outcome (T : Top w K mg) : NoAttr K (He.ga K "Runner") "outcome" := He.noat_ok (T.fa 102 rfl)
theorem na_Runner_place (T : Top w K mg) : NoAttr K (He.ga K "Runner") "place" := He.noat_ok (T.fa 103 rfl)
theorem na_Runner_plan (T : Top w K mg) : NoAttr K (He.ga K "Runner") "plan" := He.noat_ok (T.fa 104 rfl)
theorem na_Runner_stopped (T : Top w K mg) : NoAttr K (He.ga K "Runner") "stopped" := He.noat_ok (T.fa 105 rfl)
theorem me_NoKey_init (T : Top w K mg) : Meth K (He.ga K "NoKey") "__init__" (He.ma K (He.ga K "NoKey") "__init__") := He.meth_ok (T.fa 106 rfl)
theorem na_NoKey_key (T : Top w K mg) : NoAttr K (He.ga K "NoKey") "key" := He.noat_ok (T.fa 107 rfl)
theorem me_BadSchedule_init (T : Top w K mg) : Meth K (He.ga K "BadSchedule") "__init__" (He.ma K (He.ga K "BadSchedule") "__init__") := He.meth_ok (T.fa 108 rfl)
theorem na_BadSchedule_item (T : Top w K mg) : NoAttr K (He.ga K "BadSchedule") "item" := He.noat_ok (T.fa 109 rfl)
theorem f_NoKey_init (T : Top w K mg) : ∃ fd, FunD K "__init__" "NoKey.__init__" (defArgs s_NoKey_init) (defBody s_NoKey_init) (defScope s_NoKey_init) [] [] (He.ma K (He.ga K "NoKey") "__init__") fd := T.fd 0 (d := d_NoKey_init) rfl
theorem f_BadSchedule_init (T : Top w K mg) : ∃ fd, FunD K "__init__" "BadSchedule.__init__" (defArgs s_BadSchedule_init) (defBody s_BadSchedule_init) (defScope s_BadSchedule_init) [] [] (He.ma K (He.ga K "BadSchedule") "__init__") fd := T.fd 1 (d := d_BadSchedule_init) rfl
theorem f_is_word (T : Top w K mg) : ∃ fd, FunD K "is_word" "is_word" (defArgs s_is_word) (defBody s_is_word) (defScope s_is_word) [] [] (He.ga K "is_word") fd := T.fd 2 (d := d_is_word) rfl
theorem f_is_value (T : Top w K mg) : ∃ fd, FunD K "is_value" "is_value" (defArgs s_is_value) (defBody s_is_value) (defScope s_is_value) [] [] (He.ga K "is_value") fd := T.fd 3 (d := d_is_value) rfl
theorem f_checked (T : Top w K mg) : ∃ fd, FunD K "checked" "checked" (defArgs s_checked) (defBody s_checked) (defScope s_checked) [] [] (He.ga K "checked") fd := T.fd 4 (d := d_checked) rfl
theorem f_Change_init (T : Top w K mg) : ∃ fd, FunD K "__init__" "Change.__init__" (defArgs s_Change_init) (defBody s_Change_init) (defScope s_Change_init) [] [] (He.ma K (He.ga K "Change") "__init__") fd := T.fd 5 (d := d_Change_init) rfl
theorem f_Change_settings (T : Top w K mg) : ∃ fd, FunD K "settings" "Change.settings" (defArgs s_Change_settings) (defBody s_Change_settings) (defScope s_Change_settings) [] [] (He.ma K (He.ga K "Change") "settings") fd := T.fd 6 (d := d_Change_settings) rfl
theorem f_Change_add (T : Top w K mg) : ∃ fd, FunD K "__add__" "Change.__add__" (defArgs s_Change_add) (defBody s_Change_add) (defScope s_Change_add) [] [] (He.ma K (He.ga K "Change") "__add__") fd := T.fd 7 (d := d_Change_add) rfl
theorem f_Surroundings_init (T : Top w K mg) : ∃ fd, FunD K "__init__" "Surroundings.__init__" (defArgs s_Surroundings_init) (defBody s_Surroundings_init) (defScope s_Surroundings_init) [] [] (He.ma K (He.ga K "Surroundings") "__init__") fd := T.fd 8 (d := d_Surroundings_init) rfl
theorem f_Surroundings_keys_of (T : Top w K mg) : ∃ fd, FunD K "keys_of" "Surroundings.keys_of" (defArgs s_Surroundings_keys_of) (defBody s_Surroundings_keys_of) (defScope s_Surroundings_keys_of) [] [] (He.ma K (He.ga K "Surroundings") "keys_of") fd := T.fd 9 (d := d_Surroundings_keys_of) rfl
theorem f_Surroundings_state (T : Top w K mg) : ∃ fd, FunD K "state" "Surroundings.state" (defArgs s_Surroundings_state) (defBody s_Surroundings_state) (defScope s_Surroundings_state) [] [] (He.ma K (He.ga K "Surroundings") "state") fd := T.fd 10 (d := d_Surroundings_state) rfl
theorem f_Surroundings_getitem (T : Top w K mg) : ∃ fd, FunD K "__getitem__" "Surroundings.__getitem__" (defArgs s_Surroundings_getitem) (defBody s_Surroundings_getitem) (defScope s_Surroundings_getitem) [] [] (He.ma K (He.ga K "Surroundings") "__getitem__") fd := T.fd 11 (d := d_Surroundings_getitem) rfl
theorem f_Surroundings_add (T : Top w K mg) : ∃ fd, FunD K "__add__" "Surroundings.__add__" (defArgs s_Surroundings_add) (defBody s_Surroundings_add) (defScope s_Surroundings_add) [] [] (He.ma K (He.ga K "Surroundings") "__add__") fd := T.fd 12 (d := d_Surroundings_add) rfl
theorem f_Surroundings_iadd (T : Top w K mg) : ∃ fd, FunD K "__iadd__" "Surroundings.__iadd__" (defArgs s_Surroundings_iadd) (defBody s_Surroundings_iadd) (defScope s_Surroundings_iadd) [] [] (He.ma K (He.ga K "Surroundings") "__iadd__") fd := T.fd 13 (d := d_Surroundings_iadd) rfl
theorem f_Surroundings_eq (T : Top w K mg) : ∃ fd, FunD K "__eq__" "Surroundings.__eq__" (defArgs s_Surroundings_eq) (defBody s_Surroundings_eq) (defScope s_Surroundings_eq) [] [] (He.ma K (He.ga K "Surroundings") "__eq__") fd := T.fd 14 (d := d_Surroundings_eq) rfl
theorem f_Surroundings_contains (T : Top w K mg) : ∃ fd, FunD K "__contains__" "Surroundings.__contains__" (defArgs s_Surroundings_contains) (defBody s_Surroundings_contains) (defScope s_Surroundings_contains) [] [] (He.ma K (He.ga K "Surroundings") "__contains__") fd := T.fd 15 (d := d_Surroundings_contains) rfl
theorem f_changed (T : Top w K mg) : ∃ fd, FunD K "changed" "changed" (defArgs s_changed) (defBody s_changed) (defScope s_changed) [] [] (He.ga K "changed") fd := T.fd 16 (d := d_changed) rfl
theorem f_is_item (T : Top w K mg) : ∃ fd, FunD K "is_item" "is_item" (defArgs s_is_item) (defBody s_is_item) (defScope s_is_item) [] [] (He.ga K "is_item") fd := T.fd 17 (d := d_is_item) rfl
theorem f_is_statement (T : Top w K mg) : ∃ fd, FunD K "is_statement" "is_statement" (defArgs s_is_statement) (defBody s_is_statement) (defScope s_is_statement) [] [] (He.ga K "is_statement") fd := T.fd 18 (d := d_is_statement) rfl
theorem f_bodies_of (T : Top w K mg) : ∃ fd, FunD K "bodies_of" "bodies_of" (defArgs s_bodies_of) (defBody s_bodies_of) (defScope s_bodies_of) [] [] (He.ga K "bodies_of") fd := T.fd 19 (d := d_bodies_of) rfl
theorem f_check_body (T : Top w K mg) : ∃ fd, FunD K "check_body" "check_body" (defArgs s_check_body) (defBody s_check_body) (defScope s_check_body) [] [] (He.ga K "check_body") fd := T.fd 20 (d := d_check_body) rfl
theorem f_as_tuples (T : Top w K mg) : ∃ fd, FunD K "as_tuples" "as_tuples" (defArgs s_as_tuples) (defBody s_as_tuples) (defScope s_as_tuples) [] [] (He.ga K "as_tuples") fd := T.fd 21 (d := d_as_tuples) rfl
theorem f_all_statements (T : Top w K mg) : ∃ fd, FunD K "all_statements" "all_statements" (defArgs s_all_statements) (defBody s_all_statements) (defScope s_all_statements) [] [] (He.ga K "all_statements") fd := T.fd 22 (d := d_all_statements) rfl
theorem f_depth_of (T : Top w K mg) : ∃ fd, FunD K "depth_of" "depth_of" (defArgs s_depth_of) (defBody s_depth_of) (defScope s_depth_of) [] [] (He.ga K "depth_of") fd := T.fd 23 (d := d_depth_of) rfl
theorem f_check_size (T : Top w K mg) : ∃ fd, FunD K "check_size" "check_size" (defArgs s_check_size) (defBody s_check_size) (defScope s_check_size) [] [] (He.ga K "check_size") fd := T.fd 24 (d := d_check_size) rfl
theorem f_names_in (T : Top w K mg) : ∃ fd, FunD K "names_in" "names_in" (defArgs s_names_in) (defBody s_names_in) (defScope s_names_in) [] [] (He.ga K "names_in") fd := T.fd 25 (d := d_names_in) rfl
theorem f_Program_init (T : Top w K mg) : ∃ fd, FunD K "__init__" "Program.__init__" (defArgs s_Program_init) (defBody s_Program_init) (defScope s_Program_init) [] [] (He.ma K (He.ga K "Program") "__init__") fd := T.fd 26 (d := d_Program_init) rfl
theorem f_Program_eq (T : Top w K mg) : ∃ fd, FunD K "__eq__" "Program.__eq__" (defArgs s_Program_eq) (defBody s_Program_eq) (defScope s_Program_eq) [] [] (He.ma K (He.ga K "Program") "__eq__") fd := T.fd 27 (d := d_Program_eq) rfl
theorem f_Program_reads (T : Top w K mg) : ∃ fd, FunD K "reads" "Program.reads" (defArgs s_Program_reads) (defBody s_Program_reads) (defScope s_Program_reads) [] [] (He.ma K (He.ga K "Program") "reads") fd := T.fd 28 (d := d_Program_reads) rfl
theorem f_Program_keys_of (T : Top w K mg) : ∃ fd, FunD K "keys_of" "Program.keys_of" (defArgs s_Program_keys_of) (defBody s_Program_keys_of) (defScope s_Program_keys_of) [] [] (He.ma K (He.ga K "Program") "keys_of") fd := T.fd 29 (d := d_Program_keys_of) rfl
theorem f_Program_variables (T : Top w K mg) : ∃ fd, FunD K "variables" "Program.variables" (defArgs s_Program_variables) (defBody s_Program_variables) (defScope s_Program_variables) [] [] (He.ma K (He.ga K "Program") "variables") fd := T.fd 30 (d := d_Program_variables) rfl
theorem f_Outcome_init (T : Top w K mg) : ∃ fd, FunD K "__init__" "Outcome.__init__" (defArgs s_Outcome_init) (defBody s_Outcome_init) (defScope s_Outcome_init) [] [] (He.ma K (He.ga K "Outcome") "__init__") fd := T.fd 31 (d := d_Outcome_init) rfl
theorem f_check_keys (T : Top w K mg) : ∃ fd, FunD K "check_keys" "check_keys" (defArgs s_check_keys) (defBody s_check_keys) (defScope s_check_keys) [] [] (He.ga K "check_keys") fd := T.fd 32 (d := d_check_keys) rfl
theorem f_check_schedule (T : Top w K mg) : ∃ fd, FunD K "check_schedule" "check_schedule" (defArgs s_check_schedule) (defBody s_check_schedule) (defScope s_check_schedule) [] [] (He.ga K "check_schedule") fd := T.fd 33 (d := d_check_schedule) rfl
theorem f_Runner_init (T : Top w K mg) : ∃ fd, FunD K "__init__" "Runner.__init__" (defArgs s_Runner_init) (defBody s_Runner_init) (defScope s_Runner_init) [] [] (He.ma K (He.ga K "Runner") "__init__") fd := T.fd 34 (d := d_Runner_init) rfl
theorem f_Runner_wait (T : Top w K mg) : ∃ fd, FunD K "wait" "Runner.wait" (defArgs s_Runner_wait) (defBody s_Runner_wait) (defScope s_Runner_wait) [] [] (He.ma K (He.ga K "Runner") "wait") fd := T.fd 35 (d := d_Runner_wait) rfl
theorem f_Runner_value_of (T : Top w K mg) : ∃ fd, FunD K "value_of" "Runner.value_of" (defArgs s_Runner_value_of) (defBody s_Runner_value_of) (defScope s_Runner_value_of) [] [] (He.ma K (He.ga K "Runner") "value_of") fd := T.fd 36 (d := d_Runner_value_of) rfl
theorem f_Runner_branch (T : Top w K mg) : ∃ fd, FunD K "branch" "Runner.branch" (defArgs s_Runner_branch) (defBody s_Runner_branch) (defScope s_Runner_branch) [] [] (He.ma K (He.ga K "Runner") "branch") fd := T.fd 37 (d := d_Runner_branch) rfl
theorem f_Runner_statement (T : Top w K mg) : ∃ fd, FunD K "statement" "Runner.statement" (defArgs s_Runner_statement) (defBody s_Runner_statement) (defScope s_Runner_statement) [] [] (He.ma K (He.ga K "Runner") "statement") fd := T.fd 38 (d := d_Runner_statement) rfl
theorem f_Runner_execute (T : Top w K mg) : ∃ fd, FunD K "execute" "Runner.execute" (defArgs s_Runner_execute) (defBody s_Runner_execute) (defScope s_Runner_execute) [] [] (He.ma K (He.ga K "Runner") "execute") fd := T.fd 39 (d := d_Runner_execute) rfl
theorem f_run (T : Top w K mg) : ∃ fd, FunD K "run" "run" (defArgs s_run) (defBody s_run) (defScope s_run) [.ref (He.dflAt ("run", none) 0 K), .ref (He.dflAt ("run", none) 1 K)] [] (He.ga K "run") fd := T.fd 40 (d := d_run) rfl
theorem f_frozen (T : Top w K mg) : ∃ fd, FunD K "frozen" "frozen" (defArgs s_frozen) (defBody s_frozen) (defScope s_frozen) [] [] (He.ga K "frozen") fd := T.fd 41 (d := d_frozen) rfl
theorem f_free_names (T : Top w K mg) : ∃ fd, FunD K "free_names" "free_names" (defArgs s_free_names) (defBody s_free_names) (defScope s_free_names) [] [] (He.ga K "free_names") fd := T.fd 42 (d := d_free_names) rfl
theorem f_replaced (T : Top w K mg) : ∃ fd, FunD K "replaced" "replaced" (defArgs s_replaced) (defBody s_replaced) (defScope s_replaced) [] [] (He.ga K "replaced") fd := T.fd 43 (d := d_replaced) rfl
theorem f_with_reads (T : Top w K mg) : ∃ fd, FunD K "with_reads" "with_reads" (defArgs s_with_reads) (defBody s_with_reads) (defScope s_with_reads) [] [] (He.ga K "with_reads") fd := T.fd 44 (d := d_with_reads) rfl
theorem f_pinned (T : Top w K mg) : ∃ fd, FunD K "pinned" "pinned" (defArgs s_pinned) (defBody s_pinned) (defScope s_pinned) [] [] (He.ga K "pinned") fd := T.fd 45 (d := d_pinned) rfl
theorem f_law_begin (T : Top w K mg) : ∃ fd, FunD K "_law_begin" "_law_begin" (defArgs s_law_begin) (defBody s_law_begin) (defScope s_law_begin) [] [] (He.ga K "_law_begin") fd := T.fd 46 (d := d_law_begin) rfl
theorem f_law_draw (T : Top w K mg) : ∃ fd, FunD K "_law_draw" "_law_draw" (defArgs s_law_draw) (defBody s_law_draw) (defScope s_law_draw) [] [] (He.ga K "_law_draw") fd := T.fd 47 (d := d_law_draw) rfl
theorem f_law_values (T : Top w K mg) : ∃ fd, FunD K "_law_values" "_law_values" (defArgs s_law_values) (defBody s_law_values) (defScope s_law_values) [] [] (He.ga K "_law_values") fd := T.fd 48 (d := d_law_values) rfl
theorem f_law_changes (T : Top w K mg) : ∃ fd, FunD K "_law_changes" "_law_changes" (defArgs s_law_changes) (defBody s_law_changes) (defScope s_law_changes) [] [] (He.ga K "_law_changes") fd := T.fd 49 (d := d_law_changes) rfl
theorem f_law_variable (T : Top w K mg) : ∃ fd, FunD K "_law_variable" "_law_variable" (defArgs s_law_variable) (defBody s_law_variable) (defScope s_law_variable) [] [] (He.ga K "_law_variable") fd := T.fd 50 (d := d_law_variable) rfl
theorem f_law_plain (T : Top w K mg) : ∃ fd, FunD K "_law_plain" "_law_plain" (defArgs s_law_plain) (defBody s_law_plain) (defScope s_law_plain) [] [] (He.ga K "_law_plain") fd := T.fd 51 (d := d_law_plain) rfl
theorem f_law_body (T : Top w K mg) : ∃ fd, FunD K "_law_body" "_law_body" (defArgs s_law_body) (defBody s_law_body) (defScope s_law_body) [] [] (He.ga K "_law_body") fd := T.fd 52 (d := d_law_body) rfl
theorem f_law_size (T : Top w K mg) : ∃ fd, FunD K "_law_size" "_law_size" (defArgs s_law_size) (defBody s_law_size) (defScope s_law_size) [] [] (He.ga K "_law_size") fd := T.fd 53 (d := d_law_size) rfl
theorem f_law_prints (T : Top w K mg) : ∃ fd, FunD K "_law_prints" "_law_prints" (defArgs s_law_prints) (defBody s_law_prints) (defScope s_law_prints) [] [] (He.ga K "_law_prints") fd := T.fd 54 (d := d_law_prints) rfl
theorem f_law_short (T : Top w K mg) : ∃ fd, FunD K "_law_short" "_law_short" (defArgs s_law_short) (defBody s_law_short) (defScope s_law_short) [] [] (He.ga K "_law_short") fd := T.fd 55 (d := d_law_short) rfl
theorem f_law_case (T : Top w K mg) : ∃ fd, FunD K "_law_case" "_law_case" (defArgs s_law_case) (defBody s_law_case) (defScope s_law_case) [] [] (He.ga K "_law_case") fd := T.fd 56 (d := d_law_case) rfl
theorem f_law_do (T : Top w K mg) : ∃ fd, FunD K "_law_do" "_law_do" (defArgs s_law_do) (defBody s_law_do) (defScope s_law_do) [] [] (He.ga K "_law_do") fd := T.fd 57 (d := d_law_do) rfl
theorem f_law_go (T : Top w K mg) : ∃ fd, FunD K "_law_go" "_law_go" (defArgs s_law_go) (defBody s_law_go) (defScope s_law_go) [] [] (He.ga K "_law_go") fd := T.fd 58 (d := d_law_go) rfl
theorem f_law_run (T : Top w K mg) : ∃ fd, FunD K "_law_run" "_law_run" (defArgs s_law_run) (defBody s_law_run) (defScope s_law_run) [] [] (He.ga K "_law_run") fd := T.fd 59 (d := d_law_run) rfl
theorem f_law_schedule (T : Top w K mg) : ∃ fd, FunD K "_law_schedule" "_law_schedule" (defArgs s_law_schedule) (defBody s_law_schedule) (defScope s_law_schedule) [] [] (He.ga K "_law_schedule") fd := T.fd 60 (d := d_law_schedule) rfl
theorem f_law_made (T : Top w K mg) : ∃ fd, FunD K "_law_made" "_law_made" (defArgs s_law_made) (defBody s_law_made) (defScope s_law_made) [] [] (He.ga K "_law_made") fd := T.fd 61 (d := d_law_made) rfl
theorem f_law_free (T : Top w K mg) : ∃ fd, FunD K "_law_free" "_law_free" (defArgs s_law_free) (defBody s_law_free) (defScope s_law_free) [] [] (He.ga K "_law_free") fd := T.fd 62 (d := d_law_free) rfl
theorem f_law_put (T : Top w K mg) : ∃ fd, FunD K "_law_put" "_law_put" (defArgs s_law_put) (defBody s_law_put) (defScope s_law_put) [] [] (He.ga K "_law_put") fd := T.fd 63 (d := d_law_put) rfl
theorem f_law_pinned (T : Top w K mg) : ∃ fd, FunD K "_law_pinned" "_law_pinned" (defArgs s_law_pinned) (defBody s_law_pinned) (defScope s_law_pinned) [] [] (He.ga K "_law_pinned") fd := T.fd 64 (d := d_law_pinned) rfl
theorem f_law_like (T : Top w K mg) : ∃ fd, FunD K "_law_like" "_law_like" (defArgs s_law_like) (defBody s_law_like) (defScope s_law_like) [] [] (He.ga K "_law_like") fd := T.fd 65 (d := d_law_like) rfl
theorem f_law (T : Top w K mg) : ∃ fd, FunD K "law" "law" (defArgs s_law) (defBody s_law) (defScope s_law) [] [] (He.ga K "law") fd := T.fd 66 (d := d_law) rfl
theorem t_FORMS (T : Top w K mg) : ∃ es m, KDict K w (He.ga K "FORMS") es m := let ⟨_, _, _, c⟩ := T.h; c.t.tab 0 (t := (fun K => He.ga K "FORMS", ["read", "set", "copy", "print", "say", "wait", "if", "same", "repeat", "stop"])) rfl
theorem Top.ex (T : Top w K mg) (i : Nat) {f : PySem.W.Frag → Bool} (h : exL[i]? = some f) : f K = true := let ⟨_, _, _, c⟩ := T.h; List.all_eq_true.mp c.more f (List.mem_of_getElem? h)
theorem v_FORMS (T : Top w K mg) : He.valsB K (He.ga K "FORMS") tab_FORMS = true := T.ex 0 rfl
theorem ins_Change (T : Top w K mg) : insB K "Change" = true := T.ex 1 rfl
theorem kit_Change_Change (T : Top w K mg) : kitC K "Change" "Change" true = true := T.ex 2 rfl
theorem ins_Surroundings (T : Top w K mg) : insB K "Surroundings" = true := T.ex 3 rfl
theorem kit_Surroundings_Surroundings (T : Top w K mg) : kitC K "Surroundings" "Surroundings" true = true := T.ex 4 rfl
theorem ins_Program (T : Top w K mg) : insB K "Program" = true := T.ex 5 rfl
theorem kit_Program_Program (T : Top w K mg) : kitC K "Program" "Program" true = true := T.ex 6 rfl
theorem spc_Change_add (T : Top w K mg) : spcB K "Change" "__add__" = true := T.ex 7 rfl
theorem spc_Surroundings_getitem (T : Top w K mg) : spcB K "Surroundings" "__getitem__" = true := T.ex 8 rfl
theorem spc_Surroundings_add (T : Top w K mg) : spcB K "Surroundings" "__add__" = true := T.ex 9 rfl
theorem spc_Surroundings_iadd (T : Top w K mg) : spcB K "Surroundings" "__iadd__" = true := T.ex 10 rfl
theorem spc_Surroundings_eq (T : Top w K mg) : spcB K "Surroundings" "__eq__" = true := T.ex 11 rfl
theorem spc_Surroundings_contains (T : Top w K mg) : spcB K "Surroundings" "__contains__" = true := T.ex 12 rfl
theorem spc_Program_eq (T : Top w K mg) : spcB K "Program" "__eq__" = true := T.ex 13 rfl
theorem oex_NoKey (T : Top w K mg) : oexB K (He.ga K "NoKey") = true := T.ex 14 rfl
theorem oex_BadSchedule (T : Top w K mg) : oexB K (He.ga K "BadSchedule") = true := T.ex 15 rfl
theorem emp_run_0 (T : Top w K mg) : empB K (He.dflAt ("run", none) 0 K) = true := T.ex 16 rfl
theorem emp_run_1 (T : Top w K mg) : empB K (He.dflAt ("run", none) 1 K) = true := T.ex 17 rfl
theorem two_Surroundings_Change (T : Top w K mg) : twoB K "Surroundings" "Change" = true := T.ex 18 rfl
end
end RM

set_option Elab.async false
set_option linter.all false
set_option maxRecDepth 100000
set_option maxHeartbeats 2000000
namespace RM
open PySem PySem.Spec PyProof.Rows L2
section
variable {P : Program} {w : World} {K : PySem.W.Frag} {mg : Str → Option Value} {base : Heap}
theorem sc_is_value : FnScope ["value"] ["value"] (defScope s_is_value) := ⟨rfl, rfl, rfl, by decide +kernel, rfl, by decide +kernel, by decide +kernel⟩
def spIsValue : Sp := fun vs H Q _ => match vs with
  | [x] => ∃ n, x = .int n ∧ Q (.bl (isValue n)) H
  | _ => False
/-- data that is no number -/
def noInt : PyData → Bool
  | .int _ => false
  | .dict _ => false
  | _ => true
def spIsValueG (K : PySem.W.Frag) : Sp := fun vs H Q E => spIsValue vs H Q E ∨ match vs with
  | [x] => ∃ d, Dp K H x d ∧ noInt d = true ∧ Q (.bl false) H
  | _ => False
theorem cg_is_value (T : Top w K mg) : Cal P w K mg base CX0 1 "is_value" (spIsValueG K) := by
  refine cal_0 (f_is_value T) (g_is_value T) sc_is_value (fun _ _ _ _ _ _ us hl => match us, hl with | [_], _ => rfl) (fun vs H Q E h => match vs, h with | [_], _ => rfl | [], .inl h => h.elim | [], .inr h => h.elim | _ :: _ :: _, .inl h => h.elim | _ :: _ :: _, .inr h => h.elim) (fun cdv A outer s H vs Q E hr h => ?_)
  match vs, h with
  | [x], h =>
  refine ⟨_, (pss_one (ps_ret (pe_and (pcb (z_isinstance T) call_isi boot_isinstance (pa_cons (pv 0) (pa_cons (pty (z_int T) boot_int) pa_nil))) (pe_and (pe_not (pcb (z_isinstance T) call_isi boot_isinstance (pa_cons (pv 0) (pa_cons (pty (z_bool T) boot_bool) pa_nil)))) (pe_one (pe_chain op_le op_le (pe_un un_neg (pglI (i_GREATEST T))) (pv 0) (pglI (i_GREATEST T)))))))), ?_⟩
  rcases h with h | ⟨d, hd, hn, q⟩
  case inr =>
    cases hd with
    | int i => cases hn
    | non => exact ⟨_, rfl, _, _, _, _, false, rfl, .ty _, .base .non, kit_ty (by decide +kernel), _, rfl, iteF q⟩
    | str z => exact ⟨_, rfl, _, _, _, _, false, rfl, .ty _, .base (.str z), kit_ty (by decide +kernel), _, rfl, iteF q⟩
    | lst h1 _ => exact ⟨_, rfl, _, _, _, _, false, rfl, .ty _, tyL h1, kit_ty (by decide +kernel), _, rfl, iteF q⟩
    | tup h1 _ => exact ⟨_, rfl, _, _, _, _, false, rfl, .ty _, tyT h1, kit_ty (by decide +kernel), _, rfl, iteF q⟩
    | bl b =>
      refine ⟨_, rfl, _, _, _, _, true, rfl, .ty _, .base (.bl b), kit_ty (by decide +kernel), _, rfl, iteT ?_⟩
      exact ⟨_, rfl, _, _, _, _, true, rfl, .ty _, .base (.bl b), kit_ty (by decide +kernel), _, rfl, _, rfl, iteF q⟩
  obtain ⟨n, rfl, q⟩ := h
  refine ⟨_, rfl, _, _, _, _, true, rfl, .ty _, .base (.int _), kit_ty (by decide +kernel), _, rfl, iteT ?_⟩
  refine ⟨_, rfl, _, _, _, _, false, rfl, .ty _, .base (.int _), kit_ty (by decide +kernel), _, rfl, _, rfl, iteT ?_⟩
  refine ⟨_, rfl, _, rfl, _, _, rfl, rfl, _, rfl, ?_⟩
  unfold isValue at q
  by_cases c : -99 ≤ n
  · rw [decide_eq_true c] at q
    rw [decide_eq_true c]
    exact ⟨_, _, rfl, rfl, q⟩
  · rw [decide_eq_false c] at q
    rw [decide_eq_false c]
    exact q
theorem c_is_value (T : Top w K mg) : Cal P w K mg base CX0 1 "is_value" spIsValue := (cg_is_value T).imp fun _ _ _ _ => Or.inl
/-! ### is_word -/
def spIsWord : Sp := fun vs H Q _ => match vs with
  | [x] => ∃ z : Str, x = .str z ∧ z.length ≤ sizeLine ∧ Q (.bl (isWord z)) H
  | _ => False
theorem sc_is_word : FnScope ["value", "letter"] ["value"] (defScope s_is_word) := ⟨rfl, rfl, rfl, by decide +kernel, rfl, by decide +kernel, by decide +kernel⟩
/-- data that is no text -/
def noStr : PyData → Bool
  | .str _ => false
  | .dict _ => false
  | _ => true
def spIsWordG (K : PySem.W.Frag) : Sp := fun vs H Q E => spIsWord vs H Q E ∨ match vs with
  | [x] => ∃ d, Dp K H x d ∧ noStr d = true ∧ Q (.bl false) H
  | _ => False
theorem cg_is_word (T : Top w K mg) : Cal P w K mg base CX0 1 "is_word" (spIsWordG K) := by
  refine cal_0 (f_is_word T) (g_is_word T) sc_is_word (fun _ _ _ _ _ _ us hl => match us, hl with | [_], _ => rfl) (fun vs H Q E h => match vs, h with | [_], _ => rfl | [], .inl h => h.elim | [], .inr h => h.elim | _ :: _ :: _, .inl h => h.elim | _ :: _ :: _, .inr h => h.elim) (fun cdv A outer s H vs Q E hr h => ?_)
  match vs, h with
  | [x], h =>
  refine ⟨_, (pss_cons (ps_if (PW.pt (pw_or (pt_not (pt_val (pcb (z_isinstance T) call_isi boot_isinstance (pa_cons (pv 0) (pa_cons (pty (z_str T) boot_str) pa_nil))))) (pw_or1 (pt_not (pt_chain op_le op_le pe_int (pcb (z_len T) call_len_str boot_len (pa_cons (pv 0) pa_nil)) (pglI (i_LONGEST T)))))))
      (pss_one (ps_ret pe_bl))
      pss_nil)
    (pss_cons (ps_for PassesOwn.never rfl (pi_str (pv 0)) (pg_name (i := 1) sc_is_word.nd rfl (Or.inl rfl))
      (pss_one (ps_if (pt_cmpR op_notIn_sign (pv 1) (pglS (i_LETTERS T)) rfl)
      (pss_one (ps_ret pe_bl))
      pss_nil)))
    (pss_one (ps_ret pe_bl)))), ?_⟩
  rcases h with h | ⟨d, hd, hn, q⟩
  case inr =>
    cases hd with
    | str z => cases hn
    | non => exact ⟨_, rfl, _, _, _, _, false, rfl, .ty _, .base .non, kit_ty (by decide +kernel), _, rfl, iteT q⟩
    | int z => exact ⟨_, rfl, _, _, _, _, false, rfl, .ty _, .base (.int z), kit_ty (by decide +kernel), _, rfl, iteT q⟩
    | bl z => exact ⟨_, rfl, _, _, _, _, false, rfl, .ty _, .base (.bl z), kit_ty (by decide +kernel), _, rfl, iteT q⟩
    | lst h1 _ => exact ⟨_, rfl, _, _, _, _, false, rfl, .ty _, tyL h1, kit_ty (by decide +kernel), _, rfl, iteT q⟩
    | tup h1 _ => exact ⟨_, rfl, _, _, _, _, false, rfl, .ty _, tyT h1, kit_ty (by decide +kernel), _, rfl, iteT q⟩
  obtain ⟨z, rfl, hz, q⟩ := h
  refine ⟨_, rfl, _, _, _, _, true, rfl, .ty _, .base (.str _), kit_ty (by decide +kernel), _, rfl, ?_⟩
  refine iteF ?_
  refine ⟨_, rfl, _, rfl, hz, _, _, rfl, rfl, _, rfl, ?_⟩
  have no : ∀ b : Bool, isWord z = b → Q (.bl b) H := fun b e => by rw [← e]; exact q
  by_cases c1 : 1 ≤ (z.length : Int)
  case neg =>
    rw [decide_eq_false c1]
    exact iteF ⟨_, rfl, iteT (no false (by unfold isWord; rw [decide_eq_false (by omega)]; rfl))⟩
  rw [decide_eq_true c1]
  refine iteT ?_
  refine ⟨_, _, rfl, rfl, _, rfl, ?_⟩
  by_cases c2 : (z.length : Int) ≤ 6
  case neg =>
    rw [decide_eq_false c2]
    exact iteT (no false (by unfold isWord; rw [decide_eq_false (by omega : ¬ z.length ≤ 6), Bool.and_false]; rfl))
  rw [decide_eq_true c2]
  refine iteF ?_
  have e0 : isWord z = z.cps.toList.all isLet := by
    unfold isWord
    rw [decide_eq_true (by omega), decide_eq_true (by omega)]
    rfl
  refine ⟨_, rfl, _, rfl, for_it walk_str (fun i σ H' => H' = H ∧ (∃ v, σ = [some (.str z), v]) ∧ (z.cps.toList.take i).all isLet = true) ⟨rfl, ⟨_, rfl⟩, rfl⟩ (fun _ _ _ _ _ => trivial) ?_ ?_⟩
  · rintro i x σ H1 H2 hi ⟨rfl, ⟨v, rfl⟩, ha⟩ ⟨rfl, c, hc, rfl⟩
    refine ⟨_, rfl, c, _, rfl, rfl, _, rfl, ?_⟩
    have hc' : z.cps.toList[i]? = some c := by simpa using hc
    by_cases m : c ∈ ("abcdefghijklmnopqrstuvwxyz" : Str).cps.toList
    · rw [decide_eq_true m]
      refine iteF ⟨rfl, ⟨_, rfl⟩, ?_⟩
      rw [List.take_add_one, hc', List.all_append, ha]
      show ([c].all isLet) = true
      simp only [List.all_cons, List.all_nil, Bool.and_true]
      exact decide_eq_true m
    · rw [decide_eq_false m]
      refine iteT (no false (e0.trans ?_))
      rw [List.all_eq_false]
      exact ⟨c, List.mem_of_getElem? hc', by unfold isLet; rw [decide_eq_false m]; exact Bool.false_ne_true⟩
  · rintro σ H1 ⟨rfl, ⟨v, rfl⟩, ha⟩
    refine no true (e0.trans ?_)
    rw [← ha, List.take_of_length_le (by simp)]
theorem c_is_word (T : Top w K mg) : Cal P w K mg base CX0 1 "is_word" spIsWord := (cg_is_word T).imp fun _ _ _ _ => Or.inl
end
end RM

set_option Elab.async false
set_option linter.all false
set_option maxRecDepth 100000
set_option maxHeartbeats 2000000
namespace RM
open PySem PySem.Spec PyProof.Rows L2
/-! ### dicts from words to values -/
abbrev WM := List (Str × Int)
def mK (m : WM) : List (Key × V) := m.map fun q => (Sum.inr q.1, V.int q.2)
/-- right words and values, no word twice -/
def okM (m : WM) : Prop := (∀ q ∈ m, isWord q.1 = true ∧ isValue q.2 = true) ∧ (m.map (·.1)).Nodup
theorem mK_get {m : WM} {i : Nat} {k : Key} {v : V} (h : (mK m)[i]? = some (k, v)) : ∃ q, m[i]? = some q ∧ k = .inr q.1 ∧ v = .int q.2 := by
  unfold mK at h
  rw [List.getElem?_map] at h
  obtain ⟨q, hq, e⟩ := Option.map_eq_some_iff.mp h
  injection e with e1 e2
  exact ⟨q, hq, e1.symm, e2.symm⟩
theorem valV_mK : ∀ {m : WM}, (m.map (·.1)).Nodup → ∀ q ∈ m, valV (mK m) (Sum.inr q.1) = some (.int q.2)
  | [], _, q, h => by simp at h
  | p :: r, hn, q, h => by
    rw [List.map_cons, List.nodup_cons] at hn
    rcases List.mem_cons.mp h with rfl | h
    · show (((Sum.inr q.1, V.int q.2) :: mK r).find? fun kv => decide (kv.1 = Sum.inr q.1)).map (·.2) = _
      rw [List.find?_cons_of_pos (by simp)]
      rfl
    · have ne : p.1 ≠ q.1 := fun e => hn.1 (by rw [e]; exact List.mem_map.mpr ⟨q, h, rfl⟩)
      show (((Sum.inr p.1, V.int p.2) :: mK r).find? fun kv => decide (kv.1 = Sum.inr q.1)).map (·.2) = _
      rw [List.find?_cons_of_neg (by simpa using ne)]
      exact valV_mK hn.2 q h
theorem upd_back {H : Hp} {a : Addr} {u o : HO} (h : H a = some u) : upd (upd H a o) a u = H := by
  funext b
  by_cases e : b = a
  · rw [e, upd_same, h]
  · rw [upd_ne e, upd_ne e]
/-- m2 holds what m holds, its words ascending -/
def SortM (m m2 : WM) : Prop := m2.Perm m ∧ sortedS (m2.map (·.1)) = true
/-- what a dict's comprehension adds -/
abbrev addsD (D : Addr) (tk tv : TE) : L2.St → Hp → (Hp → Prop) → Prop := fun σ H N => tk σ H fun y H4 => tv σ H4 fun z H5 => ∃ kvs k, y = kV k ∧ H5 D = some (.dK kvs) ∧ kvs.length < sizeLine ∧ N (upd H5 D (.dK (putK kvs k z)))
/-- a dict's comprehension over a walk: I by the turn -/
theorem dc_walk {J : It} {n : Nat} {G : Hp → Prop} {Y : Nat → Hp → V → Hp → Prop} (wk : Walk J n G Y) {g : TG} {tt : TT} {tk tv : TE} {vs : List Nat} {σ : L2.St} {H1 : Hp} {D : Addr} {Qd : Hp → Prop} (I : Nat → Hp → Prop) (start : I 0 (upd H1 D (.dK [])))
    (stay : ∀ i H, i ≤ n → I i H → G H) (turn : ∀ i x H H', i < n → I i H → Y i H x H' → g x (wipe σ vs) H' fun σ2 H2 => wipe σ2 vs = wipe σ vs ∧ tt σ2 H2 fun b H3 => if b = true then addsD D tk tv σ2 H3 (I (i + 1)) else I (i + 1) H3)
    (last : ∀ H, I n H → Qd H) : ∃ W : Nat → Nat → Hp → Prop, (∃ m, W 0 m (upd H1 D (.dK []))) ∧ Turns J g tt (addsD D tk tv) (wipe σ vs) vs W Qd := by
  refine ⟨fun i m H => m + i = n ∧ I i H, ⟨n, rfl, start⟩, ?_⟩
  rintro i m H ⟨e, hI⟩
  have hG := stay i H (by omega) hI
  cases m with
  | zero =>
    obtain rfl : i = n := by omega
    exact .inl ⟨wk.stops H hG, last H hI⟩
  | succ m => exact .inr ⟨wk.goes i H (by omega) hG, I (i + 1), fun H' h => ⟨m, by omega, by omega, h⟩, fun x H' y => turn i x H H' (by omega) hI (wk.yields i H x H' (by omega) hG y)⟩
/-- the map with the words ks in their order -/
def pick (m : WM) (ks : List Str) : WM := ks.map fun k => (k, ((m.find? fun q => decide (q.1 = k)).map (·.2)).getD 0)
theorem find_own : ∀ {m : WM}, (m.map (·.1)).Nodup → ∀ q ∈ m, ((m.find? fun p => decide (p.1 = q.1)).map (·.2)).getD 0 = q.2
  | [], _, q, h => by simp at h
  | p :: r, hn, q, h => by
    rw [List.map_cons, List.nodup_cons] at hn
    rcases List.mem_cons.mp h with rfl | h
    · rw [List.find?_cons_of_pos (by simp)]
      rfl
    · have ne : p.1 ≠ q.1 := fun e => hn.1 (by rw [e]; exact List.mem_map.mpr ⟨q, h, rfl⟩)
      rw [List.find?_cons_of_neg (by simpa using ne)]
      exact find_own hn.2 q h
theorem pick_keys (m : WM) (ks : List Str) : (pick m ks).map (·.1) = ks := by
  unfold pick
  rw [List.map_map]
  exact List.map_id ks
theorem pick_perm {m : WM} {ks : List Str} (hn : (m.map (·.1)).Nodup) (hp : ks.Perm (m.map (·.1))) : (pick m ks).Perm m := by
  have h := hp.map fun k => (k, ((m.find? fun q => decide (q.1 = k)).map (·.2)).getD 0)
  rw [List.map_map] at h
  have e : m.map ((fun k => (k, ((m.find? fun q => decide (q.1 = k)).map (·.2)).getD 0)) ∘ (·.1)) = m := by
    have key : ∀ l : WM, (∀ q ∈ l, q ∈ m) → l.map ((fun k => (k, ((m.find? fun q => decide (q.1 = k)).map (·.2)).getD 0)) ∘ (·.1)) = l := by
      intro l
      induction l with
      | nil => intro _; rfl
      | cons q r ih =>
        intro hl
        rw [List.map_cons, ih fun x hx => hl x (List.mem_cons_of_mem _ hx)]
        show (q.1, ((m.find? fun p => decide (p.1 = q.1)).map (·.2)).getD 0) :: r = q :: r
        rw [find_own hn q (hl q List.mem_cons_self)]
    exact key m fun _ h => h
  rw [e] at h
  exact h
/-- a new word goes to the end -/
theorem put_new {m : WM} {z : Str} {n : Int} (h : z ∉ m.map (·.1)) : putK (mK m) (Sum.inr z) (.int n) = mK (m ++ [(z, n)]) := by
  have e : ((mK m).any fun kv => decide (kv.1 = Sum.inr z)) = false := by
    rw [List.any_eq_false]
    intro kv hkv
    obtain ⟨q, hq, rfl⟩ := List.mem_map.mp hkv
    simp only [decide_eq_true_eq]
    intro e
    exact h (List.mem_map.mpr ⟨q, hq, Sum.inr.inj e⟩)
  unfold putK
  rw [if_neg (by rw [e]; exact Bool.false_ne_true)]
  unfold mK
  rw [List.map_append]
  rfl
section
variable {P : Program} {w : World} {K : PySem.W.Frag} {mg : Str → Option Value} {base : Heap}
def spChk : Sp := fun vs H Q _ => match vs with
  | [x, y] => ∃ (a : Addr) (m : WM) (least : Nat), x = .ref a ∧ y = .int least ∧ H a = some (.dK (mK m)) ∧ okM m ∧ least ≤ m.length ∧ m.length ≤ 4 ∧
    ∀ p H' m2, Same H H' → H p = none → H' p = some (.dK (mK m2)) → SortM m m2 → Q (.ref p) H'
  | _ => False
theorem sc_checked : FnScope ["values", "least", "key"] ["values", "least"] (defScope s_checked) := ⟨rfl, rfl, rfl, by decide +kernel, rfl, by decide +kernel, by decide +kernel⟩
theorem c_checked (T : Top w K mg) : Cal P w K mg base CX0 3 "checked" spChk := by
  refine cal_0 (f_checked T) (g_checked T) sc_checked (fun _ _ _ _ _ _ us hl => match us, hl with | [_, _], _ => rfl) (fun vs H Q E h => match vs, h with | [_, _], _ => rfl) (fun cdv A outer s H vs Q E hr h => ?_)
  match vs, h with
  | [x, y], h =>
  obtain ⟨a, m, least, rfl, rfl, ha, hg, h1, h2, q⟩ := h
  have lm : (mK m).length = m.length := List.length_map ..
  refine ⟨_, (pss_cons (ps_if (PW.pt (pw_or (pt_not (pt_val (pcb (z_isinstance T) call_isi boot_isinstance (pa_cons (pv 0) (pa_cons (pty (z_dict T) boot_dict) pa_nil))))) (pw_or1 (pt_not (pt_chain op_le op_le (pv 1) (pcb (z_len T) call_lenD boot_len (pa_cons (pv 0) pa_nil)) (pglI (i_MOST_surroundings T)))))))
      (pss_one ps_never)
      pss_nil)
    (pss_cons (ps_lock (ps_for PassesOwn.never rfl (pi_keys (pv 0)) (pg_name (i := 2) sc_checked.nd rfl (Or.inl rfl))
      (pss_one (ps_if (PW.pt (pw_or (pt_not (pt_val (pc (c_is_word T) hr (pa_cons (pv 2) pa_nil)))) (pw_or1 (pt_not (pt_val (pc (c_is_value T) hr (pa_cons (pe_dget (hu_of hr) (pv 0) (pv 2) (fun _ _ => rfl)) pa_nil)))))))
      (pss_one ps_never)
      pss_nil))))
    (pss_one (ps_ret (pe_dc (own := [("key", 2)]) rfl sc_checked.nd (pi_list (pcb (z_sorted T) (call_sortedD rfl) boot_sorted (pa_cons (pv 0) pa_nil))) (blkOk_by (own := [("key", 2)]) (N := ["values", "least", "key"]) (sc := defScope s_checked) (by decide +kernel)) (fun _ _ _ _ _ => (pg_name (i := 2) sc_checked.nd rfl (Or.inl rfl) (Or.inr rfl))) (fun _ _ _ _ _ => pts_nil) (fun _ _ _ _ _ => (pv 2)) (fun _ _ _ _ _ => (pe_dget (hu_of hr) (pv 0) (pv 2) (fun _ _ => rfl)))))))), ?_⟩
  refine ⟨_, rfl, _, _, _, _, true, rfl, .ty _, .base (.dK ha), kit_ty (by decide +kernel), _, rfl, iteF ?_⟩
  refine ⟨_, rfl, _, rfl, a, mK m, rfl, ha, _, _, rfl, rfl, _, rfl, ?_⟩
  rw [decide_eq_true (by omega : ((least : Nat) : Int) ≤ ((mK m).length : Nat))]
  refine iteT ⟨_, _, rfl, rfl, _, rfl, ?_⟩
  refine ifF (by rw [Bool.not_eq_false', decide_eq_true_eq]; show (((mK m).length : Nat) : Int) ≤ 4; omega) ?_
  -- for key in values
  refine ⟨a, .dK (mK m), ha, trivial, fun od => ?_⟩
  refine ⟨_, rfl, a, od, rfl, .inl ⟨mK m, upd_same, for_it walk_keys (fun i σ H' => H' = upd H a (.frz od (.dK (mK m))) ∧ ∃ v, σ = [some (.ref a), some (.int least), v]) ⟨rfl, _, rfl⟩ (fun i σ H' _ h => by rw [h.1]; exact upd_same) ?_ ?_⟩⟩
  · rintro i x σ H1 H2 hi ⟨rfl, v, rfl⟩ ⟨rfl, k, v2, hk, rfl⟩
    obtain ⟨p, hp, rfl, rfl⟩ := mK_get hk
    have hm := List.mem_of_getElem? hp
    obtain ⟨g1, g2⟩ := hg.1 p hm
    refine ⟨_, rfl, p.1, rfl, word_size g1, ?_⟩
    rw [g1]
    refine ⟨_, rfl, iteF ?_⟩
    refine ⟨_, rfl, _, rfl, a, .int p.2, rfl, .inl ⟨mK m, .inr p.1, .inr ⟨od, upd_same⟩, rfl, (valV_mK hg.2 p hm).symm⟩, p.2, rfl, ?_⟩
    rw [g2]
    exact ⟨_, rfl, ifF rfl ⟨rfl, _, rfl⟩⟩
  · rintro σ H1 ⟨rfl, v, rfl⟩
    refine ⟨upd_same, ?_⟩
    rw [upd_back ha]
    refine ⟨_, rfl, a, mK m, m.map (·.1), rfl, .of ha, by unfold mK; rw [List.map_map, List.map_map]; rfl, by rw [List.length_map]; omega, fun ys p hperm hsort hp => ?_⟩
    refine ⟨p, rfl, ⟨_, SqL.of upd_same⟩, fun D nD => ?_⟩
    have s1 := smNew1 hp (.lst (ys.map V.str))
    have hD0 : H D = none := s1.free nD
    have ly : ys.length = m.length := by rw [hperm.length_eq, List.length_map]
    have nd : ys.Nodup := hperm.nodup_iff.mpr hg.2
    have Dp : D ≠ p := fun z => by rw [z, upd_same] at nD; cases nD
    refine dc_walk walk_list (fun i H' => Same H H' ∧ H' p = some (.lst (ys.map V.str)) ∧ H' D = some (.dK (mK (pick m (ys.take i))))) ⟨smNew s1 nD _, by rw [upd_ne (Ne.symm Dp)]; exact upd_same, upd_same⟩ (fun i H' _ h => SqL.of h.2.1) ?_ ?_
    · rintro i x H1 H2 hi ⟨e, hp1, hD⟩ ⟨rfl, hx⟩
      rw [List.getElem?_map] at hx
      obtain ⟨z, hz, rfl⟩ := Option.map_eq_some_iff.mp hx
      obtain ⟨q1, hq1, rfl⟩ := List.mem_map.mp (hperm.mem_iff.mp (List.mem_of_getElem? hz))
      have il := (List.getElem?_eq_some_iff.mp hz).1
      refine ⟨rfl, yesI ?_⟩
      refine ⟨_, rfl, _, rfl, _, rfl, a, .int q1.2, rfl, .inl ⟨mK m, .inr q1.1, .of (e _ _ ha), rfl, (valV_mK hg.2 q1 hq1).symm⟩, mK (pick m (ys.take i)), .inr q1.1, rfl, hD, small1000 ?_, ?_⟩
      · show ((pick m (ys.take i)).map _).length ≤ 1000
        rw [List.length_map]
        show ((ys.take i).map _).length ≤ 1000
        rw [List.length_map, List.length_take]
        omega
      · have hne : q1.1 ∉ (pick m (ys.take i)).map (·.1) := by
          rw [pick_keys]
          intro hin
          obtain ⟨j, hj, ej⟩ := List.mem_iff_getElem.mp hin
          rw [List.getElem_take] at ej
          have jl : j < i := by rw [List.length_take] at hj; omega
          have := (List.getElem_inj (h₀ := by omega) (h₁ := il) nd).mp (ej.trans (List.getElem?_eq_some_iff.mp hz).2.symm)
          omega
        rw [put_new hne]
        refine ⟨smOut e hD0 _, by rw [upd_ne (Ne.symm Dp)]; exact hp1, ?_⟩
        rw [upd_same, List.take_add_one, hz]
        unfold pick
        rw [List.map_append]
        show some (HO.dK (mK (_ ++ [(q1.1, q1.2)]))) = some (HO.dK (mK (_ ++ [(q1.1, ((m.find? fun q => decide (q.1 = q1.1)).map (·.2)).getD 0)])))
        rw [find_own hg.2 q1 hq1]
    · rintro H1 ⟨e, _, hD⟩
      rw [List.length_map, List.take_length] at hD
      exact q D H1 (pick m ys) e hD0 hD ⟨pick_perm hg.2 hperm, by rw [pick_keys]; exact hsort⟩
end
end RM

set_option Elab.async false
set_option linter.all false
set_option maxRecDepth 100000
set_option maxHeartbeats 2000000
namespace RM
open PySem PySem.Spec PyProof.Rows L2
section
variable {P : Program} {w : World} {K : PySem.W.Frag} {mg : Str → Option Value} {base : Heap}
/-! ### Change(..), Surroundings(..) -/
/-- an object of the class at C whose field f is a dict of words m, ascending -/
def MapAt (H : Hp) (C : Addr) (f : Str) (a : Addr) (m : WM) : Prop := ∃ dx p, H a = some (.ins C dx [(f, .ref p)]) ∧ H p = some (.dK (mK m)) ∧ okM m ∧ sortedS (m.map (·.1)) = true
theorem MapAt.keep {H H' : Hp} {C : Addr} {f : Str} {a : Addr} {m : WM} (e : Same H H') (h : MapAt H C f a m) : MapAt H' C f a m := let ⟨dx, p, h1, h2, h3⟩ := h; ⟨dx, p, e _ _ h1, e _ _ h2, h3⟩
theorem okM_perm {m m2 : WM} (h : okM m) (p : m2.Perm m) : okM m2 := ⟨fun q hq => h.1 q (p.mem_iff.mp hq), (p.map _).nodup_iff.mpr h.2⟩
def spMapInit (C : Addr) (f : Str) (least : Nat) : Sp := fun vs H Q _ => match vs with
  | [x, v] => ∃ a dx b m, x = .ref a ∧ v = .ref b ∧ H a = some (.ins C dx []) ∧ H b = some (.dK (mK m)) ∧ okM m ∧ least ≤ m.length ∧ m.length ≤ 4 ∧
    ∀ H' m2, (∀ b u, b ≠ a → H b = some u → H' b = some u) → MapAt H' C f a m2 → m2.Perm m → Q .non H'
  | _ => False
theorem sc_Change_init : FnScope ["self", "values"] ["self", "values"] (defScope s_Change_init) := ⟨rfl, rfl, rfl, by decide +kernel, rfl, by decide +kernel, by decide +kernel⟩
theorem c_Change_init (T : Top w K mg) : Mak P w K mg base CX0 4 "Change" (He.ga K "Change") (spMapInit (He.ga K "Change") "given" 0) := by
  refine mak_0 (f_Change_init T) (mk_Change T) (g_Change T) sc_Change_init (fun _ _ _ _ _ _ us hl => match us, hl with | [_, _], _ => rfl) (fun vs H Q E h => match vs, h with | [_, _], _ => rfl) (fun cdv A outer s H vs Q E hr h => ?_)
  match vs, h with
  | [x, v], h =>
  obtain ⟨a, dx, b, m, rfl, rfl, ha, hb, hg, h1, h2, q⟩ := h
  refine ⟨_, (pss_one (ps_fld (pv 0) (pc (c_checked T) hr (pa_cons (pv 1) (pa_cons pe_int pa_nil))) rfl)), ?_⟩
  refine ⟨_, rfl, b, m, 0, rfl, rfl, hb, hg, h1, h2, fun p H1 m2 e1 np hp st => ?_⟩
  have ha1 := e1 _ _ ha
  have pa : p ≠ a := fun z => by rw [z, ha] at np; cases np
  refine ⟨_, rfl, a, _, dx, [], rfl, ha1, k_Change T, na_Change_given T, by decide, ?_⟩
  refine q _ m2 (fun c u hc hu => by rw [upd_ne hc]; exact e1 _ _ hu) ⟨dx, p, upd_same, by rw [upd_ne pa]; exact hp, okM_perm hg st.1, st.2⟩ st.1
end
end RM

set_option Elab.async false
set_option linter.all false
set_option maxRecDepth 100000
set_option maxHeartbeats 2000000
namespace RM
open PySem PySem.Spec PyProof.Rows L2
section
variable {P : Program} {w : World} {K : PySem.W.Frag} {mg : Str → Option Value} {base : Heap}
theorem sc_Surroundings_init : FnScope ["self", "values"] ["self", "values"] (defScope s_Surroundings_init) := ⟨rfl, rfl, rfl, by decide +kernel, rfl, by decide +kernel, by decide +kernel⟩
theorem c_Surroundings_init (T : Top w K mg) : Mak P w K mg base CX0 4 "Surroundings" (He.ga K "Surroundings") (spMapInit (He.ga K "Surroundings") "now" 1) := by
  refine mak_0 (f_Surroundings_init T) (mk_Surroundings T) (g_Surroundings T) sc_Surroundings_init (fun _ _ _ _ _ _ us hl => match us, hl with | [_, _], _ => rfl) (fun vs H Q E h => match vs, h with | [_, _], _ => rfl) (fun cdv A outer s H vs Q E hr h => ?_)
  match vs, h with
  | [x, v], h =>
  obtain ⟨a, dx, b, m, rfl, rfl, ha, hb, hg, h1, h2, q⟩ := h
  refine ⟨_, (pss_one (ps_fld (pv 0) (pc (c_checked T) hr (pa_cons (pv 1) (pa_cons pe_int pa_nil))) rfl)), ?_⟩
  refine ⟨_, rfl, b, m, 1, rfl, rfl, hb, hg, h1, h2, fun p H1 m2 e1 np hp st => ?_⟩
  have ha1 := e1 _ _ ha
  have pa : p ≠ a := fun z => by rw [z, ha] at np; cases np
  refine ⟨_, rfl, a, _, dx, [], rfl, ha1, k_Surroundings T, na_Surroundings_now T, by decide, ?_⟩
  refine q _ m2 (fun c u hc hu => by rw [upd_ne hc]; exact e1 _ _ hu) ⟨dx, p, upd_same, by rw [upd_ne pa]; exact hp, okM_perm hg st.1, st.2⟩ st.1
end
end RM

set_option Elab.async false
set_option linter.all false
set_option maxRecDepth 100000
set_option maxHeartbeats 2000000
namespace RM
open PySem PySem.Spec PyProof.Rows L2
section
variable {P : Program} {w : World} {K : PySem.W.Frag} {mg : Str → Option Value} {base : Heap}
/-! ### state -/
def spState (K : PySem.W.Frag) : Sp := fun vs H Q _ => match vs with
  | [x] => ∃ a m, x = .ref a ∧ MapAt H (He.ga K "Surroundings") "now" a m ∧ m.length ≤ 4 ∧ ∀ p H', Same H H' → H' p = some (.tup (m.map fun q => V.int q.2)) → Q (.ref p) H'
  | _ => False
theorem sc_Surroundings_state : FnScope ["self", "key"] ["self"] (defScope s_Surroundings_state) := ⟨rfl, rfl, rfl, by decide +kernel, rfl, by decide +kernel, by decide +kernel⟩
theorem c_Surroundings_state (T : Top w K mg) : Met P w K mg base CX0 2 (He.ga K "Surroundings") "state" (spState K) := by
  refine met_0 (f_Surroundings_state T) (k_Surroundings T) (me_Surroundings_state T) sc_Surroundings_state (fun _ _ _ _ _ _ us hl => match us, hl with | [_], _ => rfl) (fun vs H Q E h => match vs, h with | [_], _ => rfl) (fun cdv A outer s H vs Q E hr h => ?_)
  match vs, h with
  | [x], h =>
  obtain ⟨a, m, rfl, ⟨dx, p, ha, hp, hg, hs⟩, hl, q⟩ := h
  refine ⟨_, (pss_one (ps_ret (pct (z_tuple T) call_tuple_of boot_tuple (pa_cons (pe_lock (pe_lc (own := [("key", 1)]) rfl sc_Surroundings_state.nd (pi_keys (pe_fld (pv 0) rfl)) (blkOk_by (own := [("key", 1)]) (N := ["self", "key"]) (sc := defScope s_Surroundings_state) (by decide +kernel)) (fun _ _ _ _ _ => (pg_name (i := 1) sc_Surroundings_state.nd rfl (Or.inl rfl) (Or.inr rfl))) (fun _ _ _ _ _ => pts_nil) (fun _ _ _ _ _ => (pe_dget (hu_of hr) (pe_fld' (K := K) rfl (pv 0) rfl) (pv 1) (fun _ _ => rfl))))) pa_nil)))), ?_⟩
  have pa : a ≠ p := fun z => by
    rw [z, hp] at ha
    cases ha
  refine ⟨p, .dK (mK m), hp, trivial, fun od => ?_⟩
  have haL : (upd H p (.frz od (.dK (mK m)))) a = some (.ins (He.ga K "Surroundings") dx [("now", .ref p)]) := by rw [upd_ne pa]; exact ha
  refine ⟨_, rfl, a, _, dx, _, _, rfl, haL, k_Surroundings T, na_Surroundings_now T, rfl, p, od, rfl, .inl ⟨mK m, upd_same, fun D nD => ?_⟩⟩
  have lm : (mK m).length = m.length := List.length_map ..
  refine lc_opt walk_keys (fun (n : Int) y _ => y = .int n) (fun i => (m.map (·.2))[i]?) nD (small1000 (by omega)) (fun H' e => e _ _ upd_same) (fun _ _ _ _ h _ => h) (fun _ _ _ _ _ h _ => h) ?_ ?_
  · rintro i x H1 H2 N hi e ⟨rfl, k, v, hk, rfl⟩ hk2 _
    obtain ⟨z, hz, rfl, rfl⟩ := mK_get hk
    have hm := List.mem_of_getElem? hz
    refine ⟨rfl, yesI ?_⟩
    refine ⟨_, rfl, a, _, dx, _, _, rfl, e _ _ haL, k_Surroundings T, na_Surroundings_now T, rfl, _, rfl, p, .int z.2, rfl, .inl ⟨mK m, .inr z.1, .inr ⟨od, e _ _ upd_same⟩, rfl, (valV_mK hg.2 z hm).symm⟩, ?_⟩
    exact hk2 _ _ z.2 (by rw [List.getElem?_map, hz]; rfl) (Same.refl _) rfl
  · intro H' ys e hD hp'
    have el : (mK m).length = (m.map (·.2)).length := by rw [lm, List.length_map]
    rw [el, some_range] at hp'
    have hys : ys = (m.map (·.2)).map V.int := paired_eq hp'
    have eH := e _ _ (upd_same : (upd H p (.frz od (.dK (mK m)))) p = _)
    have Dp : D ≠ p := fun z => by
      rw [z] at hD
      rw [hD] at eH
      cases eH
    refine ⟨eH, D, ys, rfl, .inl ⟨SqL.of (by rw [upd_ne Dp]; exact hD), fun t ht => ?_⟩⟩
    refine q t _ (smNew (fun b u hb => ?_) ht _) ?_
    · by_cases hbp : b = p
      · rw [hbp] at hb ⊢
        rw [upd_same, ← hb, hp]
      · rw [upd_ne hbp]
        exact e _ _ (by rw [upd_ne hbp]; exact hb)
    · rw [upd_same, hys, List.map_map]
      rfl
end
end RM

set_option Elab.async false
set_option linter.all false
set_option maxRecDepth 100000
set_option maxHeartbeats 2000000
/-! reading set comprehensions of texts; rising texts are one -/
namespace RM
open PySem PySem.Spec PyProof.Rows L2
theorem small_scan {n : Nat} (h : n ≤ 1000) : n + 1 < scanBound := by unfold scanBound; omega
/-- one clause -/
theorem scX_of {P : Program} {w : World} {J : It} {n : Nat} {G : Hp → Prop} {Y : Nat → Hp → V → Hp → Prop} (wk : Walk J n G Y) {g : TG} {tt : TT} {te : TE} {vs : List Nat} {σ : L2.St} {H1 : Hp} {D : Addr} {Qd : Hp → Prop}
    (o : Nat → Option Str) (hD : H1 D = none) (hn : n ≤ 1000) (hG : ∀ H, Same H1 H → G H)
    (hs : ∀ i x H H' (N : Hp → Prop), i < n → Same H1 H → Y i H x H' →
      (∀ H4 k, o i = some k → Same H H4 → ∃ c l, V.str k = .str c ∧ H4 D = some (SetX P w D l) ∧ l.length + 1 < scanBound ∧ N (upd H4 D (SetX P w D (insX c l)))) → (o i = none → ∀ H3, Same H H3 → N H3) →
      g x (wipe σ vs) H' fun σ2 H2 => wipe σ2 vs = wipe σ vs ∧ tt σ2 H2 fun b H3 => if b = true then addsX P w D te σ2 H3 N else N H3)
    (hd : ∀ H l, Same H1 H → H D = some (SetX P w D l) → l.length ≤ n → (∀ k, k ∈ l ↔ ∃ i, i < n ∧ o i = some k) → Qd H) :
    ∃ W : Nat → Nat → Hp → Prop, (∃ m, W 0 m (upd H1 D (SetX P w D []))) ∧ Turns J g tt (addsX P w D te) (wipe σ vs) vs W Qd := by
  refine ⟨fun i m H => m = n - i ∧ i ≤ n ∧ Same H1 H ∧ ∃ l, H D = some (SetX P w D l) ∧ l.length ≤ i ∧ ∀ k, k ∈ l ↔ ∃ j, j < i ∧ o j = some k, ⟨n, by simp, Nat.zero_le _, smNew1 hD _, [], upd_same, Nat.le_refl _, fun k => ⟨fun z => by simp at z, fun ⟨j, h, _⟩ => by omega⟩⟩, ?_⟩
  rintro i m H ⟨rfl, hi, s1, l, hl, hll, hm⟩
  by_cases hlt : i < n
  · refine .inr ⟨wk.goes i H hlt (hG H s1), fun H' => Same H1 H' ∧ ∃ l, H' D = some (SetX P w D l) ∧ l.length ≤ i + 1 ∧ ∀ k, k ∈ l ↔ ∃ j, j < i + 1 ∧ o j = some k, fun H' p' => ⟨n - (i + 1), by omega, rfl, hlt, p'⟩, fun x H' y => ?_⟩
    refine hs i x H H' _ hlt s1 (wk.yields i H x H' hlt (hG H s1) y) (fun H4 k ho s4 => ⟨k, l, rfl, s4 _ _ hl, small_scan (by omega), fun b u q => ?_, insX k l, upd_same, Nat.le_trans insX_len (by omega), fun k' => ?_⟩) fun ho H3 s3 => ⟨s1.trans s3, l, s3 _ _ hl, by omega, fun k' => ?_⟩
    · rw [upd_ne (ne_of_none q hD)]
      exact s4 _ _ (s1 _ _ q)
    · rw [insX_mem, hm]
      constructor
      · rintro (rfl | ⟨j, hj, e⟩)
        · exact ⟨i, by omega, ho⟩
        · exact ⟨j, by omega, e⟩
      · rintro ⟨j, hj, e⟩
        by_cases hji : j = i
        · subst hji
          rw [ho] at e
          exact .inl (Option.some.inj e).symm
        · exact .inr ⟨j, by omega, e⟩
    · rw [hm]
      constructor
      · rintro ⟨j, hj, e⟩
        exact ⟨j, by omega, e⟩
      · rintro ⟨j, hj, e⟩
        by_cases hji : j = i
        · subst hji
          rw [ho] at e
          cases e
        · exact ⟨j, by omega, e⟩
  · have e : i = n := by omega
    subst e
    exact .inl ⟨wk.stops H (hG H s1), hd H l s1 hl hll hm⟩
/-- the inner clause's loop: the texts f 0 .. f (n1 - 1) go in -/
theorem scX_in {P : Program} {w : World} {J1 : It} {n1 : Nat} {G1 : Hp → Prop} {Y1 : Nat → Hp → V → Hp → Prop} (wk : Walk J1 n1 G1 Y1) {g1 : TG} {tt1 : TT} {te : TE} {vs1 : List Nat} {σ2 : L2.St} {H0 H4 : Hp} {D : Addr} {N : Hp → Prop} {l0 : List Str}
    (f : Nat → Str) (hD : H0 D = none) (h4 : Same H0 H4) (hl0 : H4 D = some (SetX P w D l0)) (hn : l0.length + n1 ≤ 1000) (hG : ∀ H, Same H0 H → G1 H)
    (hs : ∀ j x H H' (N1 : Hp → Prop), j < n1 → Same H0 H → Y1 j H x H' →
      (∀ H7, Same H H7 → ∃ c l, V.str (f j) = .str c ∧ H7 D = some (SetX P w D l) ∧ l.length + 1 < scanBound ∧ N1 (upd H7 D (SetX P w D (insX c l)))) →
      g1 x (wipe σ2 vs1) H' fun σ3 H5 => wipe σ3 vs1 = wipe σ2 vs1 ∧ tt1 σ3 H5 fun b H6 => if b = true then addsX P w D te σ3 H6 N1 else N1 H6)
    (hd : ∀ H l, Same H0 H → H D = some (SetX P w D l) → l.length ≤ l0.length + n1 → (∀ k, k ∈ l ↔ k ∈ l0 ∨ ∃ j, j < n1 ∧ f j = k) → N H) :
    ∃ W1 : Nat → Nat → Hp → Prop, (∃ m, W1 0 m H4) ∧ Turns J1 g1 tt1 (addsX P w D te) (wipe σ2 vs1) vs1 W1 N := by
  refine ⟨fun i m H => m = n1 - i ∧ i ≤ n1 ∧ Same H0 H ∧ ∃ l, H D = some (SetX P w D l) ∧ l.length ≤ l0.length + i ∧ ∀ k, k ∈ l ↔ k ∈ l0 ∨ ∃ j, j < i ∧ f j = k, ⟨n1, by simp, Nat.zero_le _, h4, l0, hl0, Nat.le_refl _, fun k => ⟨.inl, fun z => z.elim id fun ⟨j, h, _⟩ => by omega⟩⟩, ?_⟩
  rintro i m H ⟨rfl, hi, s1, l, hl, hll, hm⟩
  by_cases hlt : i < n1
  · refine .inr ⟨wk.goes i H hlt (hG H s1), fun H' => Same H0 H' ∧ ∃ l, H' D = some (SetX P w D l) ∧ l.length ≤ l0.length + (i + 1) ∧ ∀ k, k ∈ l ↔ k ∈ l0 ∨ ∃ j, j < i + 1 ∧ f j = k, fun H' p' => ⟨n1 - (i + 1), by omega, rfl, hlt, p'⟩, fun x H' y => ?_⟩
    refine hs i x H H' _ hlt s1 (wk.yields i H x H' hlt (hG H s1) y) fun H7 s7 => ⟨f i, l, rfl, s7 _ _ hl, small_scan (by omega), fun b u q => ?_, insX (f i) l, upd_same, Nat.le_trans insX_len (by omega), fun k' => ?_⟩
    · rw [upd_ne (ne_of_none q hD)]
      exact s7 _ _ (s1 _ _ q)
    · rw [insX_mem, hm]
      constructor
      · rintro (rfl | h | ⟨j, hj, e⟩)
        · exact .inr ⟨i, by omega, rfl⟩
        · exact .inl h
        · exact .inr ⟨j, by omega, e⟩
      · rintro (h | ⟨j, hj, e⟩)
        · exact .inr (.inl h)
        · by_cases hji : j = i
          · subst hji
            exact .inl e.symm
          · exact .inr (.inr ⟨j, by omega, e⟩)
  · have e : i = n1 := by omega
    subst e
    exact .inl ⟨wk.stops H (hG H s1), hd H l s1 hl hll hm⟩
/-! ### rising texts -/
/-- the members zs, each once, in the order of texts -/
def KeysOf (ks zs : List Str) : Prop := sortedS ks = true ∧ ks.Nodup ∧ ∀ k, k ∈ ks ↔ k ∈ zs
theorem rising_pw : ∀ (l : List Str) (p : Str), risingS p l = true → (p :: l).Pairwise fun a b => ¬ b.cps.toList < a.cps.toList
  | [], p, _ => List.pairwise_singleton _ _
  | x :: r, p, h => by
    have h' : (!ltCps x.cps.toList p.cps.toList && risingS x r) = true := h
    rw [Bool.and_eq_true] at h'
    have ih := rising_pw r x h'.2
    have h1 : ¬ x.cps.toList < p.cps.toList := fun z => by
      have := h'.1
      rw [ltCps_eq, decide_eq_true z] at this
      cases this
    refine List.pairwise_cons.mpr ⟨fun y hy => ?_, ih⟩
    rcases List.mem_cons.mp hy with rfl | hy
    · exact h1
    · have h2 := (List.pairwise_cons.mp ih).1 y hy
      exact List.not_lt.mpr (List.le_trans (List.not_lt.mp h1) (List.not_lt.mp h2))
theorem sorted_pw : ∀ {l : List Str}, sortedS l = true → l.Pairwise fun a b => ¬ b.cps.toList < a.cps.toList
  | [], _ => .nil
  | x :: r, h => rising_pw r x h
theorem str_antisymm {a b : Str} (h1 : ¬ b.cps.toList < a.cps.toList) (h2 : ¬ a.cps.toList < b.cps.toList) : a = b := by
  have e := List.le_antisymm (List.not_lt.mp h1) (List.not_lt.mp h2)
  obtain ⟨⟨x⟩⟩ := a
  obtain ⟨⟨y⟩⟩ := b
  have e' : x = y := e
  rw [e']
theorem pw_one : ∀ {l m : List Str}, l.Pairwise (fun a b => ¬ b.cps.toList < a.cps.toList) → m.Pairwise (fun a b => ¬ b.cps.toList < a.cps.toList) → l.Nodup → m.Nodup → (∀ k, k ∈ l ↔ k ∈ m) → l = m
  | [], [], _, _, _, _, _ => rfl
  | [], y :: m, _, _, _, _, h => by simpa using (h y).mpr List.mem_cons_self
  | x :: l, [], _, _, _, _, h => by simpa using (h x).mp List.mem_cons_self
  | x :: l, y :: m, hl, hm, nl, nm, h => by
    obtain ⟨l1, l2⟩ := List.pairwise_cons.mp hl
    obtain ⟨m1, m2⟩ := List.pairwise_cons.mp hm
    obtain ⟨a1, a2⟩ := List.nodup_cons.mp nl
    obtain ⟨b1, b2⟩ := List.nodup_cons.mp nm
    have e : x = y := by
      rcases List.mem_cons.mp ((h x).mp List.mem_cons_self) with e | hx
      · exact e
      · rcases List.mem_cons.mp ((h y).mpr List.mem_cons_self) with e | hy
        · exact e.symm
        · exact str_antisymm (l1 y hy) (m1 x hx)
    subst e
    rw [pw_one l2 m2 a2 b2 fun k => ?_]
    constructor
    · intro hk
      rcases List.mem_cons.mp ((h k).mp (List.mem_cons_of_mem _ hk)) with e | z
      · exact absurd (e ▸ hk) a1
      · exact z
    · intro hk
      rcases List.mem_cons.mp ((h k).mpr (List.mem_cons_of_mem _ hk)) with e | z
      · exact absurd (e ▸ hk) b1
      · exact z
theorem KeysOf.one {ks ks' zs zs' : List Str} (a : KeysOf ks zs) (b : KeysOf ks' zs') (h : ∀ k, k ∈ zs ↔ k ∈ zs') : ks = ks' :=
  pw_one (sorted_pw a.1) (sorted_pw b.1) a.2.1 b.2.1 fun k => (a.2.2 k).trans ((h k).trans (b.2.2 k).symm)
theorem KeysOf.of {ks l zs : List Str} (p : ks.Perm l) (nd : l.Nodup) (s : sortedS ks = true) (h : ∀ k, k ∈ l ↔ k ∈ zs) : KeysOf ks zs := ⟨s, p.nodup_iff.mpr nd, fun k => p.mem_iff.trans (h k)⟩
end RM

set_option Elab.async false
set_option linter.all false
set_option maxRecDepth 100000
set_option maxHeartbeats 2000000
/-! dicts of words: what is got, put over one another -/
namespace RM
open PySem PySem.Spec PyProof.Rows L2
def wKeys (m : WM) : List Str := m.map (·.1)
def wVals (m : WM) : List Int := m.map (·.2)
def wGet (m : WM) (k : Str) : Option Int := (m.find? fun q => decide (q.1 = k)).map (·.2)
theorem wGet_nil (k : Str) : wGet [] k = none := rfl
theorem wGet_cons (p : Str × Int) (r : WM) (k : Str) : wGet (p :: r) k = if p.1 = k then some p.2 else wGet r k := by
  unfold wGet
  by_cases e : p.1 = k
  · rw [List.find?_cons_of_pos (by simpa using e), if_pos e]
    rfl
  · rw [List.find?_cons_of_neg (by simpa using e), if_neg e]
theorem wGet_none {m : WM} {k : Str} : wGet m k = none ↔ k ∉ wKeys m := by
  induction m with
  | nil => simp [wGet_nil, wKeys]
  | cons p r ih =>
    rw [wGet_cons]
    show _ ↔ k ∉ p.1 :: wKeys r
    by_cases e : p.1 = k
    · rw [if_pos e, e]
      simp
    · rw [if_neg e, ih, List.mem_cons, not_or]
      exact ⟨fun h => ⟨Ne.symm e, h⟩, fun h => h.2⟩
theorem wGet_mem {m : WM} (hn : (wKeys m).Nodup) {q : Str × Int} (h : q ∈ m) : wGet m q.1 = some q.2 := by
  induction m with
  | nil => simp at h
  | cons p r ih =>
    have hn' : (p.1 :: wKeys r).Nodup := hn
    rw [List.nodup_cons] at hn'
    rw [wGet_cons]
    rcases List.mem_cons.mp h with rfl | h
    · rw [if_pos rfl]
    · rw [if_neg fun e => hn'.1 (by rw [e]; exact List.mem_map.mpr ⟨q, h, rfl⟩)]
      exact ih hn'.2 h
theorem wGet_some {m : WM} {k : Str} {n : Int} (h : wGet m k = some n) : (k, n) ∈ m := by
  induction m with
  | nil => simp [wGet_nil] at h
  | cons p r ih =>
    rw [wGet_cons] at h
    by_cases e : p.1 = k
    · rw [if_pos e] at h
      rw [← e, ← Option.some.inj h]
      exact List.mem_cons_self
    · rw [if_neg e] at h
      exact List.mem_cons_of_mem _ (ih h)
theorem wGet_perm {m g : WM} (hn : (wKeys g).Nodup) (p : m.Perm g) (k : Str) : wGet m k = wGet g k := by
  have hm : (wKeys m).Nodup := (p.map _).nodup_iff.mpr hn
  cases e : wGet m k with
  | none =>
    symm
    rw [wGet_none] at e ⊢
    exact fun h => e ((p.map (·.1)).mem_iff.mpr h)
  | some n => exact (wGet_mem hn (q := (k, n)) (p.mem_iff.mp (wGet_some e))).symm
theorem valV_get (m : WM) (k : Str) : valV (mK m) (Sum.inr k) = (wGet m k).map V.int := by
  induction m with
  | nil => rfl
  | cons p r ih =>
    rw [wGet_cons]
    show valV ((Sum.inr p.1, V.int p.2) :: mK r) (Sum.inr k) = _
    by_cases e : p.1 = k
    · rw [valV_pos (by show Sum.inr p.1 = _; rw [e]), if_pos e]
      rfl
    · rw [valV_neg (by show ¬ Sum.inr p.1 = _; exact fun z => e (Sum.inr.inj z)), if_neg e, ih]
def wPut (m : WM) (k : Str) (n : Int) : WM := if k ∈ wKeys m then m.map (fun q => if q.1 = k then (k, n) else q) else m ++ [(k, n)]
theorem putK_w (m : WM) (k : Str) (n : Int) : putK (mK m) (Sum.inr k) (.int n) = mK (wPut m k n) := by
  have a : ((mK m).any fun kv => decide (kv.1 = Sum.inr k)) = decide (k ∈ wKeys m) := by
    rw [Bool.eq_iff_iff, List.any_eq_true, decide_eq_true_iff]
    constructor
    · rintro ⟨kv, h, e⟩
      obtain ⟨q, hq, rfl⟩ := List.mem_map.mp h
      exact List.mem_map.mpr ⟨q, hq, Sum.inr.inj (of_decide_eq_true e)⟩
    · intro h
      obtain ⟨q, hq, e⟩ := List.mem_map.mp h
      exact ⟨(Sum.inr q.1, .int q.2), List.mem_map.mpr ⟨q, hq, rfl⟩, decide_eq_true (by rw [e])⟩
  unfold putK wPut
  rw [a]
  by_cases h : k ∈ wKeys m
  · rw [if_pos (decide_eq_true h), if_pos h]
    unfold mK
    rw [List.map_map, List.map_map]
    refine List.map_congr_left fun q _ => ?_
    show (if Sum.inr q.1 = Sum.inr k then _ else _) = (fun q : Str × Int => ((Sum.inr q.1 : Key), V.int q.2)) (if q.1 = k then (k, n) else q)
    by_cases e : q.1 = k
    · rw [if_pos (by rw [e]), if_pos e]
      show (Sum.inr q.1, V.int n) = (Sum.inr k, V.int n)
      rw [e]
    · rw [if_neg (fun z => e (Sum.inr.inj z)), if_neg e]
  · rw [if_neg (by simpa using h), if_neg h]
    unfold mK
    rw [List.map_append]
    rfl
theorem wKeys_put (m : WM) (k : Str) (n : Int) : wKeys (wPut m k n) = if k ∈ wKeys m then wKeys m else wKeys m ++ [k] := by
  unfold wPut
  by_cases h : k ∈ wKeys m
  · rw [if_pos h, if_pos h]
    unfold wKeys
    rw [List.map_map]
    refine List.map_congr_left fun q _ => ?_
    show (if q.1 = k then (k, n) else q).1 = q.1
    by_cases e : q.1 = k
    · rw [if_pos e, e]
    · rw [if_neg e]
  · rw [if_neg h, if_neg h]
    unfold wKeys
    rw [List.map_append]
    rfl
theorem wGet_app (m : WM) (k j : Str) (n : Int) : wGet (m ++ [(k, n)]) j = (wGet m j).or (if k = j then some n else none) := by
  induction m with
  | nil => rw [List.nil_append, wGet_cons]; rfl
  | cons p r ih =>
    rw [List.cons_append, wGet_cons, wGet_cons, ih]
    by_cases e : p.1 = j
    · rw [if_pos e, if_pos e]
      rfl
    · rw [if_neg e, if_neg e]
theorem wGet_put (m : WM) (k j : Str) (n : Int) : wGet (wPut m k n) j = if k = j then some n else wGet m j := by
  unfold wPut
  by_cases h : k ∈ wKeys m
  · rw [if_pos h]
    by_cases e : k = j
    · rw [if_pos e, ← e]
      clear e j
      induction m with
      | nil => simp [wKeys] at h
      | cons p r ih =>
        rw [List.map_cons, wGet_cons]
        by_cases e : p.1 = k
        · rw [if_pos e, if_pos rfl]
        · rw [if_neg e, if_neg e]
          have h' : k ∈ p.1 :: wKeys r := h
          rcases List.mem_cons.mp h' with z | z
          · exact absurd z.symm e
          · exact ih z
    · rw [if_neg e]
      clear h
      induction m with
      | nil => rfl
      | cons p r ih =>
        rw [List.map_cons, wGet_cons, wGet_cons, ih]
        by_cases q : p.1 = k
        · rw [if_pos q, if_neg e, if_neg (by rw [q]; exact e)]
        · rw [if_neg q]
  · rw [if_neg h, wGet_app]
    by_cases e : k = j
    · rw [if_pos e, if_pos e, ← e, wGet_none.mpr h]
      rfl
    · rw [if_neg e, if_neg e, Option.or_none]
/-- g over m -/
def wOver (m g : WM) : WM := g.foldl (fun acc q => wPut acc q.1 q.2) m
theorem mergeK_w (m g : WM) : mergeK (mK m) (mK g) = mK (wOver m g) := by
  induction g generalizing m with
  | nil => rfl
  | cons q r ih =>
    show mergeK (putK (mK m) (Sum.inr q.1) (.int q.2)) (mK r) = mK (wOver (wPut m q.1 q.2) r)
    rw [putK_w, ih]
theorem nodup_put {m : WM} (h : (wKeys m).Nodup) (k : Str) (n : Int) : (wKeys (wPut m k n)).Nodup := by
  rw [wKeys_put]
  by_cases e : k ∈ wKeys m
  · rw [if_pos e]
    exact h
  · rw [if_neg e]
    refine List.nodup_append.mpr ⟨h, by simp, fun x hx y hy z => ?_⟩
    rw [List.mem_singleton.mp hy] at z
    exact e (z ▸ hx)
theorem nodup_over {m : WM} (h : (wKeys m).Nodup) (g : WM) : (wKeys (wOver m g)).Nodup := by
  induction g generalizing m with
  | nil => exact h
  | cons q r ih => exact ih (nodup_put h q.1 q.2)
theorem wGet_over {m g : WM} (h : (wKeys g).Nodup) (k : Str) : wGet (wOver m g) k = (wGet g k).or (wGet m k) := by
  induction g generalizing m with
  | nil => rw [wGet_nil]; rfl
  | cons q r ih =>
    have h' : (q.1 :: wKeys r).Nodup := h
    rw [List.nodup_cons] at h'
    show wGet (wOver (wPut m q.1 q.2) r) k = _
    rw [ih h'.2, wGet_put, wGet_cons]
    by_cases e : q.1 = k
    · rw [if_pos e, if_pos e, wGet_none.mpr (by rw [← e]; exact h'.1)]
      rfl
    · rw [if_neg e, if_neg e]
theorem wKeys_over {m g : WM} (h : ∀ k ∈ wKeys g, k ∈ wKeys m) : wKeys (wOver m g) = wKeys m := by
  induction g generalizing m with
  | nil => rfl
  | cons q r ih =>
    have hq : q.1 ∈ wKeys m := h _ List.mem_cons_self
    have e : wKeys (wPut m q.1 q.2) = wKeys m := by rw [wKeys_put, if_pos hq]
    show wKeys (wOver (wPut m q.1 q.2) r) = _
    rw [ih (fun k hk => by rw [e]; exact h _ (List.mem_cons_of_mem _ hk)), e]
/-- a map is told by its keys and what is got -/
theorem w_ext {m : WM} (hn : (wKeys m).Nodup) : m = (wKeys m).map fun k => (k, (wGet m k).getD 0) := by
  have key : ∀ l : WM, (∀ q ∈ l, q ∈ m) → l = (wKeys l).map fun k => (k, (wGet m k).getD 0) := by
    intro l
    induction l with
    | nil => intro _; rfl
    | cons q r ih =>
      intro hl
      show q :: r = (q.1, (wGet m q.1).getD 0) :: _
      rw [wGet_mem hn (hl q List.mem_cons_self)]
      exact congrArg _ (ih fun x hx => hl x (List.mem_cons_of_mem _ hx))
  exact key m fun _ h => h
theorem okM_put {m : WM} (h : okM m) {k : Str} {n : Int} (hk : isWord k = true) (hn : isValue n = true) : okM (wPut m k n) := by
  refine ⟨fun q hq => ?_, nodup_put h.2 k n⟩
  unfold wPut at hq
  split at hq
  · obtain ⟨p, hp, rfl⟩ := List.mem_map.mp hq
    by_cases e : p.1 = k
    · rw [if_pos e]
      exact ⟨hk, hn⟩
    · rw [if_neg e]
      exact h.1 p hp
  · rcases List.mem_append.mp hq with hq | hq
    · exact h.1 q hq
    · rw [List.mem_singleton.mp hq]
      exact ⟨hk, hn⟩
theorem okM_over {m g : WM} (h : okM m) (hg : ∀ q ∈ g, isWord q.1 = true ∧ isValue q.2 = true) : okM (wOver m g) := by
  induction g generalizing m with
  | nil => exact h
  | cons q r ih =>
    obtain ⟨h1, h2⟩ := hg q List.mem_cons_self
    exact ih (okM_put h h1 h2) fun x hx => hg x (List.mem_cons_of_mem _ hx)
theorem wOver_nil {m : WM} (hn : (wKeys m).Nodup) : wOver [] m = m := by
  have key : ∀ (g acc : WM), (wKeys (acc ++ g)).Nodup → wOver acc g = acc ++ g := by
    intro g
    induction g with
    | nil => intro acc _; rw [List.append_nil]; rfl
    | cons q r ih =>
      intro acc h
      have hq : q.1 ∉ wKeys acc := by
        unfold wKeys at h ⊢
        rw [List.map_append, List.nodup_append] at h
        exact fun z => h.2.2 q.1 z q.1 List.mem_cons_self rfl
      have e : wPut acc q.1 q.2 = acc ++ [q] := by unfold wPut; rw [if_neg hq]
      show wOver (wPut acc q.1 q.2) r = _
      rw [e, ih (acc ++ [q]) (by rw [List.append_assoc]; exact h), List.append_assoc]
      rfl
  exact key m [] hn
/-! ### ascending keys are one alone -/
theorem sort_one {m m2 : WM} (p : m2.Perm m) (hn : (wKeys m).Nodup) (s1 : sortedS (wKeys m) = true) (s2 : sortedS (wKeys m2) = true) : m2 = m := by
  have n2 : (wKeys m2).Nodup := (p.map _).nodup_iff.mpr hn
  have e : wKeys m2 = wKeys m := pw_one (sorted_pw s2) (sorted_pw s1) n2 hn fun k => (p.map (·.1)).mem_iff
  rw [w_ext n2, w_ext hn, e]
  exact List.map_congr_left fun k _ => by rw [wGet_perm hn p k]
end RM

set_option Elab.async false
set_option linter.all false
set_option maxRecDepth 100000
set_option maxHeartbeats 2000000
namespace RM
open PySem PySem.Spec PyProof.Rows L2
theorem room0 {k : Nat} {A : Around} (hr : Room k A) : A.units < cLine := by have := hr.un; omega
theorem rd_lock {H : Hp} {b p : Addr} {u v : HO} {od : Obj} (hb : H b = some u) (hp : H p = some v) : Rd (upd H p (.frz od v)) b u := by
  by_cases e : b = p
  · rw [e, hp] at hb
    cases hb
    rw [e]
    exact .inr ⟨od, upd_same⟩
  · exact .inl (by rw [upd_ne e]; exact hb)
theorem same_back {H H' : Hp} {p : Addr} {u : HO} {od : Obj} (hp : H p = some u) (e : Same (upd H p (.frz od u)) H') : Same H (upd H' p u) := fun b o hb => by
  by_cases z : b = p
  · rw [z] at hb ⊢
    rw [upd_same, ← hb, hp]
  · rw [upd_ne z]
    exact e _ _ (by rw [upd_ne z]; exact hb)
section
variable {P : Program} {w : World} {K : PySem.W.Frag} {mg : Str → Option Value} {base : Heap}
def ChgAt (K : PySem.W.Frag) (H : Hp) (a : Addr) (m : WM) : Prop := MapAt H (He.ga K "Change") "given" a m ∧ m.length ≤ 4
theorem ChgAt.keep {H H' : Hp} {a : Addr} {m : WM} (e : Same H H') (h : ChgAt K H a m) : ChgAt K H' a m := ⟨h.1.keep e, h.2⟩
theorem ChgAt.ok {H : Hp} {a : Addr} {m : WM} (h : ChgAt K H a m) : okM m ∧ sortedS (wKeys m) = true := let ⟨⟨_, _, _, _, a, b⟩, _⟩ := h; ⟨a, b⟩
/-! ### settings -/
def spSettings (K : PySem.W.Frag) : Sp := fun vs H Q _ => match vs with
  | [x] => ∃ a m, x = .ref a ∧ ChgAt K H a m ∧ ∀ p H', Same H H' → H p = none → H' p = some (.dK (mK m)) → Q (.ref p) H'
  | _ => False
theorem sc_Change_settings : FnScope ["self", "key"] ["self"] (defScope s_Change_settings) := ⟨rfl, rfl, rfl, by decide +kernel, rfl, by decide +kernel, by decide +kernel⟩
theorem c_Change_settings (T : Top w K mg) : Met P w K mg base CX0 2 (He.ga K "Change") "settings" (spSettings K) := by
  refine met_0 (f_Change_settings T) (k_Change T) (me_Change_settings T) sc_Change_settings (fun _ _ _ _ _ _ us hl => match us, hl with | [_], _ => rfl) (fun vs H Q E h => match vs, h with | [_], _ => rfl) (fun cdv A outer s H vs Q E hr h => ?_)
  match vs, h with
  | [x], h =>
  obtain ⟨a, m, rfl, ⟨⟨dx, p, ha, hp, hg, hs⟩, hl⟩, q⟩ := h
  refine ⟨_, (pss_one (ps_ret (pe_lock (pe_dc (own := [("key", 1)]) rfl sc_Change_settings.nd (pi_keys (pe_fld (pv 0) rfl)) (blkOk_by (own := [("key", 1)]) (N := ["self", "key"]) (sc := defScope s_Change_settings) (by decide +kernel)) (fun _ _ _ _ _ => (pg_name (i := 1) sc_Change_settings.nd rfl (Or.inl rfl) (Or.inr rfl))) (fun _ _ _ _ _ => pts_nil) (fun _ _ _ _ _ => (pv 1)) (fun _ _ _ _ _ => (pe_dget (hu_of hr) (pe_fld' (K := K) rfl (pv 0) rfl) (pv 1) (fun _ _ => rfl))))))), ?_⟩
  have pa : a ≠ p := fun z => by
    rw [z, hp] at ha
    cases ha
  refine ⟨p, .dK (mK m), hp, trivial, fun od => ?_⟩
  have haL : (upd H p (.frz od (.dK (mK m)))) a = some (.ins (He.ga K "Change") dx [("given", .ref p)]) := by rw [upd_ne pa]; exact ha
  refine ⟨_, rfl, a, _, dx, _, _, rfl, haL, k_Change T, na_Change_given T, rfl, p, od, rfl, .inl ⟨mK m, upd_same, fun D nD => ?_⟩⟩
  have lm : (mK m).length = m.length := List.length_map ..
  refine dc_walk walk_keys (fun i H' => Same (upd H p (.frz od (.dK (mK m)))) H' ∧ H' D = some (.dK (mK (m.take i)))) ⟨smNew1 nD _, upd_same⟩ (fun i H' _ h => h.1 _ _ upd_same) ?_ ?_
  · rintro i x H1 H2 hi ⟨e, hD⟩ ⟨rfl, k, v, hk, rfl⟩
    obtain ⟨z, hz, rfl, rfl⟩ := mK_get hk
    have hm := List.mem_of_getElem? hz
    have il := (List.getElem?_eq_some_iff.mp hz).1
    refine ⟨rfl, yesI ?_⟩
    refine ⟨_, rfl, _, rfl, a, _, dx, _, _, rfl, e _ _ haL, k_Change T, na_Change_given T, rfl, _, rfl, p, .int z.2, rfl, .inl ⟨mK m, .inr z.1, .inr ⟨od, e _ _ upd_same⟩, rfl, (valV_mK hg.2 z hm).symm⟩, mK (m.take i), .inr z.1, rfl, hD, small1000 ?_, ?_⟩
    · show ((m.take i).map _).length ≤ 1000
      rw [List.length_map, List.length_take]
      omega
    · have hne : z.1 ∉ (m.take i).map (·.1) := by
        intro hin
        obtain ⟨j, hj, ej⟩ := List.mem_iff_getElem.mp hin
        rw [List.getElem_map, List.getElem_take] at ej
        have jl : j < i := by rw [List.length_map, List.length_take] at hj; omega
        have e2 : (m.map (·.1))[j]'(by rw [List.length_map]; omega) = (m.map (·.1))[i]'(by rw [List.length_map]; omega) := by
          rw [List.getElem_map, List.getElem_map, ej, (List.getElem?_eq_some_iff.mp hz).2]
        have := (List.getElem_inj (h₀ := by rw [List.length_map]; omega) (h₁ := by rw [List.length_map]; omega) hg.2).mp e2
        omega
      rw [put_new hne]
      refine ⟨smOut e nD _, ?_⟩
      rw [upd_same, List.take_add_one, hz]
      rfl
  · rintro H1 ⟨e, hD⟩
    rw [lm, List.take_length] at hD
    have eH := e _ _ (upd_same : (upd H p (.frz od (.dK (mK m)))) p = _)
    have Dp : D ≠ p := fun z => by
      rw [z] at hD
      rw [hD] at eH
      cases eH
    refine ⟨eH, q D _ (same_back hp e) ?_ (by rw [upd_ne Dp]; exact hD)⟩
    rw [upd_ne Dp] at nD
    exact nD
end
end RM

set_option Elab.async false
set_option linter.all false
set_option maxRecDepth 100000
set_option maxHeartbeats 2000000
/-! tuple(a dict), {**a, **b} -/
namespace RM
open PySem PySem.Spec PyProof.Rows L2
section
variable {X : Cx}
/-- tuple(d): its keys -/
theorem call_tupleD (hcalm : X.calm = true) : CallR X (.type "tuple") (fun xs H Q => ∃ (a : Addr) (kvs : List (Key × V)), xs = [.ref a] ∧ Rd H a (.dK kvs) ∧ ∀ p, H p = none → Q (.ref p) (upd H p (.tup (kvs.map fun kv => kV kv.1)))) := by
  rintro pins s σ H xs us Q I r ⟨a, kvs, rfl, hd, q⟩
  obtain ⟨u, rfl, rx⟩ := vals1 r
  cases rx
  obtain ⟨z, lo, vs, rel, dd⟩ := dk_rd I.hok hd
  obtain ⟨ep, hat⟩ := dd.dictAt
  have lv : kvs.length = vs.length := rel.length
  have ks : (kvs.map fun kv => kV kv.1) = vs.map fun p => kV p.1 := by
    have := congrArg (List.map kV) rel.keys
    rw [List.map_map, List.map_map] at this
    exact this
  refine callType_codes (Q₁ := fun obj s₁ => s₁.TypeIs obj "tuple" ∧ EP X pins σ Q obj s₁) PySem.F.called_tuple (PySem.F.typeCall_tuple_1 _) PySem.F.entry_object_init ?_ fun obj s₁ h₁ =>
    ⟨h₁.1, PySem.F.args_object_init_2 obj _, object_init_meets PySem.F.called_tuple.init.lookup PySem.F.called_tuple.made (by decide) X.prog X.w X.A.in1 _ s₁ ⟨h₁.1, rfl, h₁.2⟩⟩
  refine codeAny_of_tree ?_
  show wpAny _ X.A.in1.in1 (do checkBuiltinCall "tuple.__new__" ⟨[.type "tuple", .ref a], []⟩; again (.builtin "tuple.__new__" ⟨[.type "tuple", .ref a], []⟩)) _ _ s
  refine wpAny_bind (wpAny_of_eq (PySem.F.newCall_tuple_1 _) (wpAny_pure ⟨plainId_quiet PySem.F.plain_tuple_new _, codeAny_builtin PySem.F.entry_tuple_new ?_⟩))
  rw [Around.under_plainId PySem.F.plain_tuple_new _]
  have c1 := sub_tuple_self
  have c2 := init_tuple_lookup
  have c3 := madeHere_tuple
  have ty : s.TypeIs (.ref a) "dict" := dd.typeIs
  have K := PySem.W.kdl_dict (prog := X.prog) (w := X.w) (knd := mixKind X.prog X.w) (kvs := vs) (ep := ep) lo
  have sz0 : vs.length ≤ sizeLine := lv ▸ z
  wp_walk using wpAny_typeOf ty, PySem.W.kdu_collect K (show X.A.in1.in1.handled = none from I.ok.hd hcalm) hat sz0
  intro h' tk acc hk hacc
  show wpAny _ _ (Builtin.Tuple.tupleExact acc.toList.toArray >>= fun v => ret v) _ _ _
  unfold Builtin.Tuple.tupleExact
  have sz : acc.toList.toArray.size ≤ sizeLine := by
    simp only [Array.toArray_toList]
    rw [hacc.1, ← lv]
    exact z
  refine wpAny_bind (wpAny_newObj_type ?_ sz)
  refine wpAny_pure ⟨⟨_, Heap.get?_push_size _ rfl, rfl⟩, ?_⟩
  have hv : Vals (kvs.map fun kv => kV kv.1) acc.toList := by
    rw [ks]
    exact keys_at (by rw [Array.length_toList]; exact hacc.1) fun j v e => hacc.2 j v (by rw [← Array.getElem?_toList]; exact e)
  have I1 : Inv X pins σ H { s with heap := h', toks := tk } := I.kept hk
  exact ⟨.ref h'.objs.size, _, I1.laid (t' := tk) (fun b o e => Heap.get?_push_of_some _ e) (Nat.le_refl _) (show ObjOk X.prog X.w _ _ _ (.tup (kvs.map fun kv => kV kv.1)) from ⟨by rw [List.length_map]; exact z, acc.toList, hv, IsTup.new _ _⟩), rfl, q _ (I1.hok.fresh (Nat.le_refl _))⟩
end
/-! ### {**a, **b} -/
section
variable {prog : Program} {w : World} {κ : Type} [DecidableEq κ] {knd : KeyKind prog w κ} {A : Around} {E : Value → Shared → Prop} {s : Shared} {d a : Addr} {kvs more : List (κ × Value)}
/-- one entry is put -/
theorem put_pair {k : κ} {key v : Value} {Q : Unit → Shared → Prop} (hkey : knd.is k key = true) (hm : s.heap.DictOf knd d kvs) (sz : kvs.length ≤ sizeLine)
    (then_ : ∀ h', h'.DictOf knd d (stored kvs k v) → Heap.SameBut d s.heap h' → Q () { s with heap := h' }) : wpAny (model prog w) A (dictPut d (knd.hash k) key v) Q E s := by
  obtain ⟨o, es, ep, ho, hc, hd, hk, hp, once⟩ := hm
  have same : (es.findIdx? fun e => knd.is k e.key) = kvs.findIdx? fun kv => decide (kv.1 = k) := by
    rw [← hp.findIdx k]
    obtain ⟨l⟩ := es
    simp
  have small : es.size ≤ sizeLine := by
    have e1 := hp.length
    have e2 : es.toList.length = es.size := by simp
    omega
  unfold dictPut
  refine wpAny_bind (wpAny_dictFind_of hkey ho hd hk ?_)
  cases at_ : es.findIdx? fun e => knd.is k e.key with
  | some i =>
    refine wpAny_updateDict ho hd (then_ _ ⟨_, _, ep, Heap.get?_update_self _ ho (Obj.isFreed_of_dict (Obj.data_mapDict hd _)), hc.mapDict _, Obj.data_mapDict hd _, hk.modify _ _, ?_, ?_⟩ (Heap.SameBut.update ..))
    · rw [stored, if_pos (any_of_findIdx_some (same ▸ at_))]
      have hl : (es.toList.findIdx? fun e => knd.is k e.key) = some i := by
        rw [← at_]
        obtain ⟨l⟩ := es
        simp
      have := hp.modify once hl v
      obtain ⟨l⟩ := es
      simpa using this
    · rw [stored, if_pos (any_of_findIdx_some (same ▸ at_)), keys_map_store]
      exact once
  | none =>
    have out : k ∉ kvs.map (·.1) := not_mem_of_findIdx_none (same ▸ at_)
    have no : ¬ (kvs.any fun kv => decide (kv.1 = k)) = true := fun h => by
      obtain ⟨kv, hkv, he⟩ := List.any_eq_true.mp h
      exact out (List.mem_map.mpr ⟨kv, hkv, of_decide_eq_true he⟩)
    refine wpAny_updateDictKeys (hz := small) ho hd (then_ _ ⟨_, _, ep + 1, Heap.get?_update_self _ ho (Obj.isFreed_of_dict (Obj.data_mapDictKeys hd _)), hc.mapDictKeys _, Obj.data_mapDictKeys hd _, hk.push hkey _, ?_, ?_⟩ (Heap.SameBut.update ..))
    · rw [stored, if_neg no]
      have := hp.append hkey (knd.hash k) v
      obtain ⟨l⟩ := es
      simpa using this
    · rw [stored, if_neg no, List.map_append]
      refine List.nodup_append.mpr ⟨once, by simp, fun x hx y hy e => ?_⟩
      simp only [List.map_cons, List.map_nil, List.mem_singleton] at hy
      exact out (hy ▸ e ▸ hx)
end
end RM

set_option Elab.async false
set_option linter.all false
set_option maxRecDepth 100000
set_option maxHeartbeats 2000000
/-! {**a, **b} -/
namespace RM
open PySem PySem.Spec PyProof.Rows L2
section
variable {prog : Program} {w : World} {κ : Type} [DecidableEq κ] {knd : PySem.KeyKind prog w κ} {A : Around} {E : Value → Shared → Prop} {s : Shared} {d a : Addr} {kvs more : List (κ × Value)}
theorem merge_in {Q : Unit → Shared → Prop} (ne : d ≠ a) (lo : (a == sysModules) = false) (hd : s.heap.DictOf knd d kvs) (ha : s.heap.DictOf knd a more) (sz : kvs.length + more.length ≤ sizeLine)
    (then_ : ∀ h', h'.DictOf knd d (merged kvs more) → Heap.SameBut d s.heap h' → Q () { s with heap := h' }) : wpAny (model prog w) A (mergeMapping d (.ref a) false) Q E s := by
  obtain ⟨od, esd, epd, hod, _, hdd, _, _, _⟩ := id hd
  obtain ⟨oa, esa, epa, hoa, hca, hda, hka, hpa, hna⟩ := id ha
  have len : more.length = esa.size := by rw [← hpa.length]; simp
  unfold mergeMapping
  refine wpAny_bind (wpAny_isInstance ha.typeIs isSubtype_dict_dict ?_)
  rw [if_pos rfl]
  refine wpAny_bind (wpAny_specialOf ha.typeIs PySem.F.slot_dict_iter.lookup ?_)
  refine wpAny_bind (wpAny_pure ?_)
  rw [show (some (Value.builtin "dict.__iter__") == some (Value.builtin "dict.__iter__")) = true by decide]
  dsimp only
  rw [if_neg (by rw [lo]; exact Bool.false_ne_true)]
  have loop : wpAny (model prog w) A (do
      let es ← dictEntries a
      let epoch ← dictEpoch a
      forIn (List.range es.size) PUnit.unit fun i (_ : PUnit) => (do
          let es ← dictEntries a
          match es[i]? with
            | some e => do
              holding [e.key, e.val]
                  (if false = true then do
                    let l ← dictFind d e.key e.hash
                    if l.isSome = true then do
                        rule "dict.merge.duplicate-key"
                        let x ← newExc (Value.type "KeyError") [e.key]
                        raiseNew x
                        dictPut d e.hash e.key e.val
                      else dictPut d e.hash e.key e.val
                  else dictPut d e.hash e.key e.val)
              let ep ← dictEpoch a
              if (ep != epoch) = true then do
                  (unsupported "dict.changed-during-merge" : Sem PUnit)
                  pure (ForInStep.yield PUnit.unit)
                else pure (ForInStep.yield PUnit.unit)
            | _ => do
              (unsupported "dict.changed-during-merge" : Sem PUnit)
              pure (ForInStep.yield PUnit.unit) : Sem (ForInStep PUnit))
      pure ()) Q E s := by
    refine wpAny_bind (wpAny_dictEntries hoa hda (wpAny_bind (wpAny_dictEpoch hoa hda (wpAny_bind ?_))))
    refine wpAny_forIn_list _ (fun rest _ s' => ∃ h' i, s' = { s with heap := h' } ∧ rest = (List.range esa.size).drop i ∧ i ≤ esa.size ∧ h'.DictOf knd d (merged kvs (more.take i)) ∧ h'.get? a = some oa ∧ Heap.SameBut d s.heap h') _ ?_ ?_ _ _
      ⟨s.heap, 0, rfl, rfl, Nat.zero_le _, hd, hoa, Heap.SameBut.refl _ _⟩
    · rintro x rest b s' ⟨h', i, rfl, hr, hi, hd', hoa', hs'⟩
      have lt : i < esa.size := by
        rcases Nat.lt_or_ge i esa.size with h | h
        · exact h
        · rw [List.drop_eq_nil_of_le (by rw [List.length_range]; exact h)] at hr
          cases hr
      rw [List.drop_eq_getElem_cons (by rw [List.length_range]; exact lt), List.getElem_range] at hr
      injection hr with e1 e2
      subst e1 e2
      refine wpAny_bind (wpAny_dictEntries hoa' hda ?_)
      rw [Array.getElem?_eq_getElem lt]
      obtain ⟨⟨k, v⟩, hkv⟩ : ∃ kv, more[x]? = some kv := ⟨more[x]'(by rw [len]; exact lt), List.getElem?_eq_getElem _⟩
      obtain ⟨k1, v1⟩ := hpa.get? (e := esa[x]) (by simp [lt]) hkv
      obtain ⟨k2, k3, hh⟩ := hka esa[x] (Array.getElem_mem lt)
      obtain rfl : k2 = k := knd.inj _ _ _ k3 k1
      dsimp only
      rw [if_neg Bool.false_ne_true, hh, v1]
      have room : (merged kvs (more.take x)).length ≤ sizeLine := by
        have few := merged_length_le kvs (more.take x)
        rw [List.length_take] at few
        omega
      refine wpAny_bind (wpAny_holding (put_pair k1 hd' room fun h2 hd2 hs2 => ?_))
      have hoa2 : h2.get? a = some oa := (hs2.2 a (Ne.symm ne)).trans hoa'
      refine wpAny_bind (wpAny_dictEpoch hoa2 hda ?_)
      rw [if_neg (by simp)]
      exact wpAny_pure ⟨h2, x + 1, rfl, rfl, lt, by rw [merged_take_succ kvs more x (k2, v) hkv]; exact hd2, hoa2, hs'.trans hs2⟩
    · rintro b s' ⟨h', i, rfl, hr, hi, hd', hoa', hs'⟩
      have e : i = esa.size := by
        rcases Nat.lt_or_ge i esa.size with h | h
        · rw [List.drop_eq_getElem_cons (by rw [List.length_range]; exact h)] at hr
          cases hr
        · omega
      rw [e, ← len, List.take_length] at hd'
      exact wpAny_pure (then_ h' hd' hs')
  refine wpAny_bind (wpAny_dictEntries hod hdd ?_)
  split
  · refine wpAny_bind (wpAny_dictEntries hoa hda (wpAny_bind ?_))
    have quiet : (forIn esa PUnit.unit fun e (_ : PUnit) => (match e.key with
        | Value.ref _ => do
          let l ← specialOf e.key (Str.ofString "__eq__")
          if (l != some (Value.builtin "object.__eq__")) = true then
              if (Array.filter (fun x => x.hash == e.hash) esa).size > 1 then do
                (unsupported "dict.merge-into-an-empty-dict:keys-of-equal-hash" : Sem PUnit)
                pure (ForInStep.yield PUnit.unit)
              else pure (ForInStep.yield PUnit.unit)
            else pure (ForInStep.yield PUnit.unit)
        | _ => pure (ForInStep.yield PUnit.unit) : Sem (ForInStep PUnit))) = pure PUnit.unit := by
      rw [← Array.forIn_toList]
      refine forIn_yield_id _ fun e he c => ?_
      obtain ⟨k, hk, _⟩ := hka e (Array.mem_toList_iff.mp he)
      have bv := knd.byValue k _ hk
      cases q : e.key <;> first | rfl | (rw [q] at bv; exact absurd bv Bool.false_ne_true)
    exact wpAny_of_eq quiet loop
  · exact loop
end
/-- {**a, **b}: the new dict stands while the two are read -/
def tStar2 (ta tb : TE) : TE := fun σ H Q => ∀ p, H p = none → ta σ (upd H p (.dK [])) fun x H1 => ∃ a kvs, x = .ref a ∧ a ≠ p ∧ H1 p = some (.dK []) ∧ Rd H1 a (.dK kvs) ∧
  tb σ (upd H1 p (.dK (mergeK [] kvs))) fun y H2 => ∃ b more m1, y = .ref b ∧ b ≠ p ∧ H2 p = some (.dK m1) ∧ Rd H2 b (.dK more) ∧ m1.length + more.length ≤ sizeLine ∧ Q (.ref p) (upd H2 p (.dK (mergeK m1 more)))
section
variable {X : Cx}
theorem merge_V {pins : List (Addr × Obj)} {σ : L2.St} {H : Hp} {s : Shared} {p a : Addr} {m1 more : List (Key × V)} {A : Around} {E : Value → Shared → Prop} {Q : Unit → Shared → Prop} (I : Inv X pins σ H s) (hp : H p = some (.dK m1)) (ha : Rd H a (.dK more)) (ne : a ≠ p) (sz : m1.length + more.length ≤ sizeLine)
    (then_ : ∀ s', Inv X pins σ (upd H p (.dK (mergeK m1 more))) s' → Q () s') : wpAny (model X.prog X.w) A (mergeMapping p (.ref a) false) Q E s := by
  obtain ⟨z1, lo1, vs, r1, d1⟩ := dk_of I.hok hp
  obtain ⟨z2, lo2, us, r2, d2⟩ := dk_rd I.hok ha
  have l1 : m1.length = vs.length := r1.length
  have l2 : more.length = us.length := r2.length
  refine merge_in (Ne.symm ne) lo2 d1 d2 (by omega) fun h' hd hs => then_ _ ?_
  have len : (mergeK m1 more).length ≤ sizeLine := Nat.le_trans (length_mergeK more m1) sz
  have he : ∃ q, h'.get? p = some q := let ⟨q, _, _, hq, _⟩ := hd; ⟨q, hq⟩
  exact d_write (t' := s.toks) I (by rw [hp]; exact True.intro) hs he (dk_new len lo1 (KV.merge r2 r1) hd)
theorem pe_star2 {e1 e2 : Expr} {ta tb : TE} {pos : Pos} (h1 : PE X e1 ta) (h2 : PE X e2 tb) : PE X (.Dict [none, none] [e1, e2] pos) (tStar2 ta tb) := by
  refine ⟨fun pins s σ H Q I q => ?_⟩
  have q1 := q s.heap.objs.size (I.hok.fresh (Nat.le_refl _))
  have I1 := I.laid (t' := s.toks) (fun _ _ z => Heap.get?_push_of_some _ z) (Nat.le_refl _) (dk_empty (P := X.prog) (w := X.w) (H := upd H s.heap.objs.size (.dK [])) s.heap I.big)
  rw [arm_eval_Dict]
  refine wpAny_bind (wpAny_standAt ?_)
  show wpAny _ _ (dictDisplay [(none, do let x ← eval e1 X.env; standAt pos; pure x), (none, do let x ← eval e2 X.env; standAt pos; pure x)]) _ _ _
  unfold dictDisplay
  dsimp only
  refine wpAny_bind ?_
  rw [List.forIn_cons]
  refine wpAny_bind ?_
  dsimp only
  rw [if_pos (by rfl)]
  refine wpAny_bind (wpAny_pure ?_)
  dsimp only
  refine wpAny_bind (wpAny_alloc ?_)
  refine wpAny_bind (wpAny_holding (wpAny_bind (thn (h1.run pins _ σ _ _ I1 q1) ?_)))
  rintro v s1 ⟨_, H1, I2, rx, a, kvs, rfl, ne, hp, ha, q2⟩
  cases rx
  refine wpAny_bind (wpAny_standAt (wpAny_pure ?_))
  have l1 : kvs.length ≤ sizeLine := (dk_rd I2.hok ha).1
  refine wpAny_bind (wpAny_onRaise (wpAny_tryCatch (wpAny_onRaise (wpAny_holding (merge_V I2 hp ha ne (by rw [List.length_nil, Nat.zero_add]; exact l1) fun s2 I3 => ?_)))))
  refine wpAny_pure ?_
  dsimp only
  rw [List.forIn_cons]
  refine wpAny_bind ?_
  dsimp only
  rw [if_pos (by rfl)]
  refine wpAny_bind (wpAny_pure ?_)
  dsimp only
  refine wpAny_bind (wpAny_pure ?_)
  refine wpAny_bind (wpAny_holding (wpAny_bind (thn (h2.run pins _ σ _ _ I3 q2) ?_)))
  rintro v s3 ⟨_, H2, I4, rx, b, more, m1, rfl, ne2, hp2, hb, sz, q3⟩
  cases rx
  refine wpAny_bind (wpAny_standAt (wpAny_pure ?_))
  refine wpAny_bind (wpAny_onRaise (wpAny_tryCatch (wpAny_onRaise (wpAny_holding (merge_V I4 hp2 hb ne2 sz fun s4 I5 => ?_)))))
  refine wpAny_pure ?_
  dsimp only
  rw [List.forIn_nil]
  refine wpAny_pure ?_
  dsimp only
  rw [if_pos (by rfl)]
  refine wpAny_bind (wpAny_pure ?_)
  exact wpAny_pure ⟨.ref s.heap.objs.size, _, I5, rfl, q3⟩
end
end RM

set_option Elab.async false
set_option linter.all false
set_option maxRecDepth 100000
set_option maxHeartbeats 2000000
/-! dict(zip(a tuple, a tuple)) -/
namespace RM
open PySem PySem.Spec PyProof.Rows L2
section
variable {prog : Program} {w : World} {A : Around} {E : Value → Shared → Prop} {s : Shared} {z TI TO T i1 i2 : Addr} {fp1 fp2 : List Addr} {n1 n2 i : Nat} {P1 P2 : Nat → Value → Prop} {St1 St2 : Nat → Heap → Prop} {f : Bool} {oT : Obj}
/-- one more pair, while the pair before is still out -/
theorem held_more {Q : Value → Shared → Prop} (S : ZipSep2 z TI TO i1 i2 fp1 fp2) (D1 : Draws prog w A i1 fp1 n1 P1 St1) (D2 : Draws prog w A i2 fp2 n2 P2 St2) (hz : IsZipHeld s.heap z TI TO T f) (hT : s.heap.get? T = some oT) (hTI : IsTupOf2 s.heap TI (.ref i1) (.ref i2))
    (st1 : St1 i s.heap) (st2 : St2 i s.heap) (l1 : i < n1) (l2 : i < n2)
    (q : ∀ x y h' tk, P1 i x → P2 i y → IsZipHeld h' z TI TO T true → St1 (i + 1) h' → St2 (i + 1) h' → IsTupOf2 h' s.heap.objs.size x y → (∀ c o, c ≠ z → c ≠ i1 → c ≠ i2 → s.heap.get? c = some o → h'.get? c = some o) → Q (.ref s.heap.objs.size) { s with heap := h', toks := tk }) :
    wpAny (model prog w) A (Builtin.«zip.__next__» ⟨[.ref z], []⟩) (fun fin s' => ∃ v, fin = .done (.ret v) ∧ Q v s') E s := by
  show wpAny _ _ (field (.ref z) 2 >>= _) _ _ _
  refine wpAny_bind (wpAny_field hz rfl (x := .bool false) rfl ?_)
  show wpAny _ _ (field (.ref z) 3 >>= _) _ _ _
  refine wpAny_bind (wpAny_field hz rfl (x := .ref TI) rfl (wpAny_bind (wpAny_seqItems hTI rfl ?_)))
  show wpAny _ _ (Builtin.SmallTypes.ownedTupleIsFree (.ref z) >>= _) _ _ _
  refine wpAny_bind (wpAny_tupleHeld_zip hz hT fun h1 z1 k1 => ?_)
  rw [if_neg Bool.false_ne_true]
  refine wpAny_bind ?_
  rw [← Array.forIn_toList]
  simp only [List.forIn_cons, List.forIn_nil]
  refine wpAny_bind (wpAny_bind (wpAny_holding ?_))
  show wpAny _ _ (Builtin.SmallTypes.nextOf (.ref i1) >>= _) _ _ _
  refine wpAny_bind (D1.item i { s with heap := h1 } _ _ l1 (D1.over st1 k1 S.zf1) fun x h2 t2 px m1 k2 => wpAny_pure (wpAny_pure ?_))
  refine wpAny_bind (wpAny_bind (wpAny_holding ?_))
  show wpAny _ _ (Builtin.SmallTypes.nextOf (.ref i2) >>= _) _ _ _
  refine wpAny_bind (D2.item i { s with heap := h2, toks := t2 } _ _ l2 (D2.over (D2.over st2 k1 S.zf2) k2 S.sep1_2) fun y h3 t3 py m2 k3 => wpAny_pure (wpAny_pure (wpAny_pure ?_)))
  show wpAny _ _ (newTuple [x, y] >>= _) _ _ _
  refine wpAny_bind (wpAny_newTuple (wpAny_pure ⟨_, rfl, ?_⟩))
  have k2' : Heap.SameBut i1 h1 h2 := k2
  have k3' : Heap.SameBut i2 h2 h3 := k3
  have sz : h3.objs.size = s.heap.objs.size := by rw [k3'.1, k2'.1, k1.1]
  have z3 : IsZipHeld h3 z TI TO T true := k3'.extBut _ _ S.zi2 (k2'.extBut _ _ S.zi1 z1)
  have ks : ∀ c o, c ≠ z → c ≠ i1 → c ≠ i2 → s.heap.get? c = some o → h3.get? c = some o := fun c o c1 c2 c3 e => k3'.extBut _ _ c3 (k2'.extBut _ _ c2 (k1.extBut _ _ c1 e))
  have m1' : St1 (i + 1) h3 := D1.over m1 k3' S.sep2_1
  have up : ∀ c o, h3.get? c = some o → (h3.push { cls := .type "tuple", data := .seq #[x, y] }).get? c = some o := fun c o e => Heap.get?_push_of_some _ e
  have tp : IsTupOf2 (h3.push { cls := .type "tuple", data := .seq #[x, y] }) h3.objs.size x y := Heap.get?_push_size _ rfl
  show Q (.ref h3.objs.size) _
  rw [sz] at tp ⊢
  exact q x y _ t3 px py (up _ _ z3) (D1.frame _ _ _ m1' fun b _ o e => up b o e) (D2.frame _ _ _ m2 fun b _ o e => up b o e) tp fun c o c1 c2 c3 e => up c o (ks c o c1 c2 c3 e)
theorem held_end {Q : Fin → Shared → Prop} (S : ZipSep2 z TI TO i1 i2 fp1 fp2) (D1 : Draws prog w A i1 fp1 n1 P1 St1) (D2 : Draws prog w A i2 fp2 n2 P2 St2) (hz : IsZipHeld s.heap z TI TO T f) (hT : s.heap.get? T = some oT) (hTI : IsTupOf2 s.heap TI (.ref i1) (.ref i2))
    (st1 : St1 i s.heap) (st2 : St2 i s.heap) (l1 : i ≤ n1) (l2 : i ≤ n2) (e : i = n1 ∨ i = n2)
    (q : ∀ h' tk x, (∀ c o, c ≠ z → c ≠ i1 → c ≠ i2 → s.heap.get? c = some o → h'.get? c = some o) → (∃ o, h'.get? x = some o ∧ o.cls = .type "StopIteration") → E (.ref x) { s with heap := h', toks := tk }) :
    wpAny (model prog w) A (Builtin.«zip.__next__» ⟨[.ref z], []⟩) Q E s := by
  show wpAny _ _ (field (.ref z) 2 >>= _) _ _ _
  refine wpAny_bind (wpAny_field hz rfl (x := .bool false) rfl ?_)
  show wpAny _ _ (field (.ref z) 3 >>= _) _ _ _
  refine wpAny_bind (wpAny_field hz rfl (x := .ref TI) rfl (wpAny_bind (wpAny_seqItems hTI rfl ?_)))
  show wpAny _ _ (Builtin.SmallTypes.ownedTupleIsFree (.ref z) >>= _) _ _ _
  refine wpAny_bind (wpAny_tupleHeld_zip hz hT fun h1 z1 k1 => ?_)
  rw [if_neg Bool.false_ne_true]
  refine wpAny_bind ?_
  rw [← Array.forIn_toList]
  simp only [List.forIn_cons, List.forIn_nil]
  refine wpAny_bind (wpAny_bind (wpAny_holding ?_))
  show wpAny _ _ (Builtin.SmallTypes.nextOf (.ref i1) >>= _) _ _ _
  by_cases at1 : i = n1
  · refine wpAny_bind (D1.done { s with heap := h1 } _ _ (at1 ▸ D1.over st1 k1 S.zf1) fun h2 x k2 hx => ?_)
    exact q h2 _ x (fun c o c1 c2 _ e => k2 _ _ c2 (k1.extBut _ _ c1 e)) hx
  · have at2 : i = n2 := e.resolve_left at1
    refine wpAny_bind (D1.item i { s with heap := h1 } _ _ (by omega) (D1.over st1 k1 S.zf1) fun x h2 t2 px m1 k2 => wpAny_pure (wpAny_pure ?_))
    refine wpAny_bind (wpAny_bind (wpAny_holding ?_))
    show wpAny _ _ (Builtin.SmallTypes.nextOf (.ref i2) >>= _) _ _ _
    refine wpAny_bind (D2.done { s with heap := h2, toks := t2 } _ _ (at2 ▸ D2.over (D2.over st2 k1 S.zf2) k2 S.sep1_2) fun h3 x k3 hx => ?_)
    exact q h3 _ x (fun c o c1 c2 c3 e => k3 _ _ c3 (k2.extBut _ _ c2 (k1.extBut _ _ c1 e))) hx
end
section
variable {prog : Program} {w : World} {A : Around} {E : Value → Shared → Prop} {s : Shared} {z TI TO T i1 i2 : Addr} {fp1 fp2 : List Addr} {n1 n2 i : Nat} {P1 P2 : Nat → Value → Prop} {St1 St2 : Nat → Heap → Prop} {f : Bool} {oT : Obj}
theorem next_held {Q : Option Value → Shared → Prop} (S : ZipSep2 z TI TO i1 i2 fp1 fp2) (D1 : Draws prog w A.in1 i1 fp1 n1 P1 St1) (D2 : Draws prog w A.in1 i2 fp2 n2 P2 St2) (hz : IsZipHeld s.heap z TI TO T f) (hT : s.heap.get? T = some oT) (hTI : IsTupOf2 s.heap TI (.ref i1) (.ref i2))
    (st1 : St1 i s.heap) (st2 : St2 i s.heap) (l1 : i < n1) (l2 : i < n2)
    (q : ∀ x y h' tk, P1 i x → P2 i y → IsZipHeld h' z TI TO T true → St1 (i + 1) h' → St2 (i + 1) h' → IsTupOf2 h' s.heap.objs.size x y → (∀ c o, c ≠ z → c ≠ i1 → c ≠ i2 → s.heap.get? c = some o → h'.get? c = some o) → Q (some (.ref s.heap.objs.size)) { s with heap := h', toks := tk }) :
    wpAny (model prog w) A (pyNext (.ref z)) Q E s := by
  have ty : s.TypeIs (.ref z) "zip" := ⟨_, hz, rfl⟩
  unfold pyNext
  exact wpAny_bind (wpAny_attempt (wpAny_callSpecial?_slot (name := Str.ofString "__next__") ty PySem.F.slot_zip_next (wpAny_call_entry PySem.F.slot_zip_next ty PySem.F.entry_zip_next
    (held_more S D1 D2 hz hT hTI st1 st2 l1 l2 fun x y h' tk a b c d e g k => wpAny_pure (q x y h' tk a b c d e g k)) (PySem.F.args_zip_next_1 _))))
theorem next_held_end {Q : Option Value → Shared → Prop} (S : ZipSep2 z TI TO i1 i2 fp1 fp2) (D1 : Draws prog w A.in1 i1 fp1 n1 P1 St1) (D2 : Draws prog w A.in1 i2 fp2 n2 P2 St2) (hz : IsZipHeld s.heap z TI TO T f) (hT : s.heap.get? T = some oT) (hTI : IsTupOf2 s.heap TI (.ref i1) (.ref i2))
    (st1 : St1 i s.heap) (st2 : St2 i s.heap) (l1 : i ≤ n1) (l2 : i ≤ n2) (e : i = n1 ∨ i = n2)
    (q : ∀ h' tk, (∀ c o, c ≠ z → c ≠ i1 → c ≠ i2 → s.heap.get? c = some o → h'.get? c = some o) → Q none { s with heap := h', toks := tk }) : wpAny (model prog w) A (pyNext (.ref z)) Q E s := by
  have ty : s.TypeIs (.ref z) "zip" := ⟨_, hz, rfl⟩
  unfold pyNext
  refine wpAny_bind (wpAny_attempt (wpAny_callSpecial?_slot (name := Str.ofString "__next__") ty PySem.F.slot_zip_next (wpAny_call_entry PySem.F.slot_zip_next ty PySem.F.entry_zip_next
    (held_end S D1 D2 hz hT hTI st1 st2 l1 l2 e fun h' tk x k hx => ?_) (PySem.F.args_zip_next_1 _))))
  obtain ⟨o, ho, hc⟩ := hx
  exact wpAny_bind (wpAny_isInstance (T := "StopIteration") (b := true) ⟨o, ho, hc⟩ isSubtype_stop (wpAny_pure (q _ _ k)))
theorem out4 {c p q r t : Addr} (h : c ∉ [p, q, r, t]) : c ≠ p ∧ c ≠ q ∧ c ≠ r ∧ c ≠ t := by simpa only [List.mem_cons, List.not_mem_nil, or_false, not_or] using h
/-- zip(t1, t2) as dict's argument -/
theorem pairs_zipT {t1 t2 : Addr} (S : ZipSep2 z TI TO i1 i2 [i1, t1] [i2, t2]) (ne1 : t1 ≠ i1) (ne2 : t2 ≠ i2) (xs ys : Array Value) (hl : xs.size = ys.size) :
    PairArg prog w "zip" z [z, TI, TO, i1, i2, t1, t2] [z, TO, i1, i2] xs.size (fun i k v => xs[i]? = some k ∧ ys[i]? = some v)
      (fun h => IsZip h z TI TO .none ∧ IsTupOf2 h TI (.ref i1) (.ref i2) ∧ (∃ a b, IsTupOf2 h TO a b) ∧ (h.IsTupleIter i1 t1 0 ∧ h.IsTuple t1 xs) ∧ (h.IsTupleIter i2 t2 0 ∧ h.IsTuple t2 ys)) where
  type := fun _ z => ⟨_, z.1, rfl⟩
  notDict := by decide
  keep := fun h h' ok hk => by
    obtain ⟨a, b, ⟨x, y, c⟩, ⟨d, e⟩, g, j⟩ := ok
    exact ⟨hk _ _ a, hk _ _ b, ⟨x, y, hk _ _ c⟩, ⟨d.at fun o e => hk _ o e, e.at fun o e => hk _ o e⟩, g.at fun o e => hk _ o e, j.at fun o e => hk _ o e⟩
  there := fun h ok b hb => by
    obtain ⟨a, b1, ⟨x, y, c⟩, ⟨⟨o1, d, _⟩, ⟨o2, e, _⟩⟩, ⟨o3, g, _⟩, ⟨o4, j, _⟩⟩ := ok
    simp only [List.mem_cons, List.not_mem_nil, or_false] at hb
    rcases hb with rfl | rfl | rfl | rfl | rfl | rfl | rfl
    all_goals first | exact ⟨_, a⟩ | exact ⟨_, b1⟩ | exact ⟨_, c⟩ | exact ⟨_, d⟩ | exact ⟨_, g⟩ | exact ⟨_, e⟩ | exact ⟨_, j⟩
  sub := fun b hb => by
    simp only [List.mem_cons, List.not_mem_nil, or_false] at hb ⊢
    rcases hb with rfl | rfl | rfl | rfl <;> simp
  noKeys := fun _ _ _ _ calm ok k => getAttrOr_miss_zip (hA := calm) ok.1 rfl rfl rfl zip_no_keys (by decide +kernel) (h := k)
  iter := fun A s d Q E hA ok hd off h => by
    obtain ⟨hz, hTI, ⟨a, b, hTO⟩, m1, m2⟩ := ok
    simp only [List.mem_cons, List.not_mem_nil, or_false, not_or] at off
    obtain ⟨dz, dTI, dTO, di1, di2, dt1, dt2⟩ := off
    have D1 : Draws prog w A.in1 i1 [i1, t1] xs.size (fun i v => xs[i]? = some v) (fun i h => h.IsTupleIter i1 t1 i ∧ h.IsTuple t1 xs) := Draws.tuple (A := A.in1) hA i1 t1 ne1 xs
    have D2 : Draws prog w A.in1 i2 [i2, t2] ys.size (fun i v => ys[i]? = some v) (fun i h => h.IsTupleIter i2 t2 i ∧ h.IsTuple t2 ys) := Draws.tuple (A := A.in1) hA i2 t2 ne2 ys
    refine wpAny_pyIter_zip hz (h z [z, TO, i1, i2] (fun i h => IsTupOf2 h TI (.ref i1) (.ref i2) ∧ (h.IsTupleIter i1 t1 i ∧ h.IsTuple t1 xs) ∧ (h.IsTupleIter i2 t2 i ∧ h.IsTuple t2 ys) ∧
      ((IsZip h z TI TO .none ∧ ∃ a b, IsTupOf2 h TO a b) ∨ ∃ T f oT, IsZipHeld h z TI TO T f ∧ h.get? T = some oT ∧ T ≠ z ∧ T ≠ i1 ∧ T ≠ i2 ∧ T ≠ d)) s.heap s.toks ?_ ⟨hTI, m1, m2, .inl ⟨hz, a, b, hTO⟩⟩ (fun _ _ e => e) fun b hb => .inl hb)
    exact {
      off := fun hm => by
        simp only [List.mem_cons, List.not_mem_nil, or_false] at hm
        rcases hm with e | e | e | e
        · exact dz e
        · exact dTO e
        · exact di1 e
        · exact di2 e
      frame := fun i h1 h2 st hk => by
        obtain ⟨p, ⟨u1, u2⟩, ⟨v1, v2⟩, q⟩ := st
        refine ⟨hk _ _ (Ne.symm dTI) p, ⟨u1.at fun o e => hk _ o (Ne.symm di1) e, u2.at fun o e => hk _ o (Ne.symm dt1) e⟩, ⟨v1.at fun o e => hk _ o (Ne.symm di2) e, v2.at fun o e => hk _ o (Ne.symm dt2) e⟩, ?_⟩
        rcases q with ⟨q, a, b, r⟩ | ⟨T, f, oT, q, hT, r1, r2, r3, r4⟩
        · exact .inl ⟨hk _ _ (Ne.symm dz) q, a, b, hk _ _ (Ne.symm dTO) r⟩
        · exact .inr ⟨T, f, oT, hk _ _ (Ne.symm dz) q, hk _ _ r4 hT, r1, r2, r3, r4⟩
      item := fun i s1 Q1 E1 hi st hds hQ => by
        obtain ⟨p, u, v, q⟩ := st
        have lt : ∀ {c o}, s1.heap.get? c = some o → s1.heap.objs.size ≠ c := fun e => Nat.ne_of_gt (Heap.lt_size e)
        have n1 : s1.heap.objs.size ≠ i1 := let ⟨_, e, _⟩ := u.1; lt e
        have n2 : s1.heap.objs.size ≠ i2 := let ⟨_, e, _⟩ := v.1; lt e
        rcases q with ⟨q, a, b, r⟩ | ⟨T, f, oT, q, hT, r1, r2, r3, r4⟩
        · refine wpAny_pyNext_zipD2_item S D1 D2 q p r u v hi (hl ▸ hi) fun x y h' tk px py a1 a2 a3 a4 a5 a6 hk => ?_
          exact hQ s1.heap.objs.size x y h' tk ⟨px, py⟩ (.inl ⟨_, a5, rfl, _, rfl⟩) ⟨hk _ _ S.TIz S.TITO S.TIi1 S.TIi2 p, a3, a4, .inr ⟨s1.heap.objs.size, false, _, a1, a5, lt q, n1, n2, Nat.ne_of_gt hds⟩⟩
            fun c o hc e => let ⟨n1, n2, n3, n4⟩ := out4 hc; hk c o n1 n2 n3 n4 e
        · refine next_held S D1 D2 q hT p u v hi (hl ▸ hi) fun x y h' tk px py a1 a3 a4 a5 hk => ?_
          exact hQ s1.heap.objs.size x y h' tk ⟨px, py⟩ (.inl ⟨_, a5, rfl, _, rfl⟩) ⟨hk _ _ S.TIz S.TIi1 S.TIi2 p, a3, a4, .inr ⟨T, true, oT, a1, hk _ _ r1 r2 r3 hT, r1, r2, r3, r4⟩⟩
            fun c o hc e => let ⟨n1, _, n3, n4⟩ := out4 hc; hk c o n1 n3 n4 e
      done := fun s1 Q1 E1 st hQ => by
        obtain ⟨p, u, v, q⟩ := st
        rcases q with ⟨q, a, b, r⟩ | ⟨T, f, oT, q, hT, r1, r2, r3, r4⟩
        · exact wpAny_pyNext_zipD2_end S D1 D2 q p r u v (Nat.le_refl _) (Nat.le_of_eq hl) (.inl rfl) fun h' tk hk => hQ h' tk fun c o hc e => let ⟨n1, n2, n3, n4⟩ := out4 hc; hk c o n1 n2 n3 n4 e
        · exact next_held_end S D1 D2 q hT p u v (Nat.le_refl _) (Nat.le_of_eq hl) (.inl rfl) fun h' tk hk => hQ h' tk fun c o hc e => let ⟨n1, _, n3, n4⟩ := out4 hc; hk c o n1 n3 n4 e }
end
/-- dict(zip(a, b)): keys ks, values vs -/
def tDictZip (K : PySem.W.Frag) (t : TA) : TE := fun σ H Q => t σ H fun us H1 => ∃ (a b : Addr) (ks : List Key) (vs : List V), us = [.ref a, .ref b] ∧ SqT K H1 a (ks.map kV) ∧ SqT K H1 b vs ∧ ks.length = vs.length ∧
  ∀ p, H1 p = none → Q (.ref p) (upd H1 p (.dK (mergeK [] (ks.zip vs))))
theorem kv_zip : ∀ {ks : List Key} {vs : List V} {us : List Value}, Vals vs us → KV (ks.zip vs) (ks.zip us)
  | [], _, _, _ => .nil
  | _ :: _, _, _, .nil => .nil
  | k :: ks, _, _, .cons h t => .cons ⟨rfl, h⟩ (kv_zip t)
theorem pe_dictZip {X : Cx} {e e2 : Expr} {t : TA} {p p2 pos pos2 : Pos} (hcalm : X.calm = true) (hg : Gl X "dict") (hm : X.mg "dict" = none) (hg2 : Gl X "zip") (hm2 : X.mg "zip" = none) (ha : PA X [e, e2] t)
    (tree : backTo pos (starEach [Expr.Call (.Name "zip" p2) [e, e2] [] pos2] X.env) = [(false, eval (Expr.Call (.Name "zip" p2) [e, e2] [] pos2) X.env)] := by rfl)
    (two : starEach [e, e2] X.env = (false, eval e X.env) :: starEach [e2] X.env := by rfl) (plain : (backTo pos2 (starEach [e2] X.env)).any (·.1) = false := by rfl) :
    PE X (.Call (.Name "dict" p) [.Call (.Name "zip" p2) [e, e2] [] pos2] [] pos) (tDictZip X.K t) := by
  refine ⟨fun pins s σ H Q I h => ?_⟩
  refine wpAny_Call_Name_kw (ld_blt I hg hm boot_dict (PyProof.Rows.callWith_type1 ?_ rfl rfl))
  rw [tree]
  refine Calls.spliced_cons (wpAny_Call_Name_kw (ld_blt I hg2 hm2 PyProof.Rows.boot_zip (PyProof.Rows.callWith_type1 (thn (ha.run pos2 pins s σ H _ I h) ?_) two plain)))
  rintro us s1 ⟨_, H1, I1, rel, a, b, ks, vs, rfl, sa, sb, l, q⟩
  obtain ⟨_, _, rfl, ra, rb⟩ := vals2 rel
  cases ra
  cases rb
  obtain ⟨xs, rx, at1, z1⟩ := I1.tuple sa
  obtain ⟨ys, ry, at2, z2⟩ := I1.tuple sb
  have lx := rx.length
  have ly := ry.length
  rw [List.length_map] at lx
  have lt1 : a < s1.heap.objs.size := at1.lt
  have lt2 : b < s1.heap.objs.size := at2.lt
  have sep := zip_sep2 (N := s1.heap.objs.size) (fp1 := [a]) (fp2 := [b]) (fun c hc => (List.mem_singleton.mp hc).symm ▸ lt1) (fun c hc => (List.mem_singleton.mp hc).symm ▸ lt2)
  refine zip_begins2 (begins_tuple a xs.toArray) (begins_tuple b ys.toArray) at1 at2 fun hp zi ti to_ i1 i2 sz old => Calls.spliced_nil ?_
  have p1 : hp.IsTuple a xs.toArray := let ⟨o, ho, r⟩ := at1; ⟨o, old _ _ ho, r⟩
  have p2 : hp.IsTuple b ys.toArray := let ⟨o, ho, r⟩ := at2; ⟨o, old _ _ ho, r⟩
  refine PySem.call_dict_pairs (s := { s1 with heap := hp }) (knd := mixKind X.prog X.w) (kvs := ks.zip ys) (pairs_zipT (prog := X.prog) (w := X.w) sep (Nat.ne_of_lt lt1) (Nat.ne_of_lt (Nat.lt_succ_of_lt lt2)) xs.toArray ys.toArray (by simp only [List.size_toArray]; omega))
    (I.ok.hd hcalm) ⟨zi, ti, ⟨_, _, to_⟩, ⟨⟨_, i1, rfl, rfl⟩, p1⟩, ⟨_, i2, rfl, rfl⟩, p2⟩ ⟨?_, fun i key v hr => ?_⟩ ?_ fun h' tk dd hk => ?_
  · rw [List.length_zip]
    simp only [List.size_toArray]
    omega
  · obtain ⟨e1, e2⟩ := hr
    have e1' : xs[i]? = some key := by simpa using e1
    have e2' : ys[i]? = some v := by simpa using e2
    have hi := (List.getElem?_eq_some_iff.mp e1').1
    obtain ⟨u, hu, ru⟩ := Vals.get (i := i) (x := kV ks[i]) rx (by rw [List.getElem?_map, List.getElem?_eq_getElem (by omega)]; rfl)
    rw [e1'] at hu
    cases hu
    exact ⟨ks[i], List.getElem?_zip_eq_some.mpr ⟨List.getElem?_eq_getElem _, e2'⟩, kV_is ru⟩
  · simp only [List.size_toArray]
    rw [← lx]
    have := z1
    rw [List.length_map] at this
    exact this
  · have old' : ∀ c o, s1.heap.get? c = some o → h'.get? c = some o := fun c o hc => by
      have lc := Heap.lt_size hc
      refine hk c o (fun hm => ?_) (old c o hc)
      simp only [List.mem_cons, List.not_mem_nil, or_false] at hm
      rcases hm with e | e | e | e <;> (rw [e] at lc; exact absurd lc (Nat.not_lt.mpr (by first | exact Nat.le_refl _ | exact Nat.le_add_right _ _)))
    have lm : (s1.heap.objs.size + 5 == sysModules) = false := beq_eq_false_iff_ne.mpr (Nat.ne_of_gt (Nat.lt_of_lt_of_le I1.big (Nat.le_add_right _ _)))
    have sz' : hp.objs.size = s1.heap.objs.size + 5 := sz
    have hlen : (mergeK [] (ks.zip vs)).length ≤ sizeLine := by
      refine Nat.le_trans (length_mergeK _ []) ?_
      rw [List.length_nil, Nat.zero_add, List.length_zip, l, Nat.min_self]
      exact z2
    show EP X pins σ Q (.ref hp.objs.size) _
    have dd' : h'.DictOf (mixKind X.prog X.w) hp.objs.size (merged [] (ks.zip ys)) := dd
    rw [sz'] at dd' ⊢
    exact ⟨.ref (s1.heap.objs.size + 5), _, I1.laid (t' := tk) old' (Nat.le_add_right _ _) (show ObjOk X.prog X.w _ _ _ (.dK (mergeK [] (ks.zip vs))) from ⟨hlen, lm, merged [] (ks.zip ys), KV.merge (kv_zip ry) .nil, dd'⟩), rfl, q _ (I1.hok.fresh (Nat.le_add_right _ _))⟩
end RM

set_option Elab.async false
set_option linter.all false
set_option maxRecDepth 100000
set_option maxHeartbeats 2000000
namespace RM
open PySem PySem.Spec PyProof.Rows L2
section
variable {P : Program} {w : World} {K : PySem.W.Frag} {mg : Str → Option Value} {base : Heap}
/-! ### an own exception with one field -/
/-- its __init__: the field holds the argument -/
def spExo (C : Addr) (f : Str) : Sp := fun vs H Q _ => match vs with
  | [x, v] => ∃ a, x = .ref a ∧ H a = some (exo a C none) ∧ ∀ dx, H dx = none → dx ≠ a → Q .non (upd (upd H dx (exd dx [(f, v)])) a (exo a C (some dx)))
  | _ => False
theorem exo_0 {qual x : Str} {C : Addr} {k : Nat} {sp : Sp} {st : Stmt} {f : Addr} {N ps : List Str} (F : ∃ fd, FunD K "__init__" qual (defArgs st) (defBody st) (defScope st) [] [] f fd) (T : OexC K C) (M : Meth K C "__init__" f) (hm : mg x = some (.ref C)) (S : FnScope N ps (defScope st))
    (hb : ∀ (kV doc pm : Value) (an : Option Addr) (cdv ct : Value) (us : List Value), us.length = ps.length → bindArgs (PySem.W.fnOf "__init__" qual (defArgs st) (defBody st) (defScope st) .none kV doc pm an cdv ct) ⟨us, []⟩ = pure (ps.zip us))
    (len : ∀ vs H Q E, sp vs H Q E → vs.length = ps.length) (h : Body0 P w K mg base N qual st f k sp) : Exo P w K mg base (k + 1) x C sp :=
  let ⟨fd, F⟩ := F
  ⟨f, fd, ps, T, M, fn_0 F S len h, hm, F.bindsN hb⟩
/-- raise C(v): what is to be shown -/
theorem raise1 {C : Addr} {f : Str} {v : V} {H : Hp} {Q : XK} (q : ∀ d H', H d = none → Same H H' → H' d = some (.xd [(f, v)]) → Q (.ref C) (some d) H') :
    [v].length ≤ 1000 ∧ ∀ a, H a = none → spExo C f (.ref a :: ([v] ++ [])) (upd H a (exo a C none))
      (fun u H2 => u = .non ∧ ∃ (d : Addr) (fs : List (Str × V)), H2 a = some (exo a C (some d)) ∧ H2 d = some (exd d fs) ∧ H d = none ∧ Q (.ref C) (some d) (upd (L2.del H2 a) d (.xd fs))) (fun _ _ _ => False) := by
  refine ⟨by show 1 ≤ 1000; omega, fun a ha => ⟨a, rfl, upd_same, fun dx h1 h2 => ⟨rfl, dx, [(f, v)], upd_same, ?_, ?_, ?_⟩⟩⟩
  · rw [upd_ne h2, upd_same]
  · rw [upd_ne h2] at h1; exact h1
  · have hd : H dx = none := by rw [upd_ne h2] at h1; exact h1
    refine q dx _ hd (fun b o hb => ?_) upd_same
    have n1 : b ≠ a := ne_of_none hb ha
    have n2 : b ≠ dx := ne_of_none hb hd
    rw [upd_ne n2, L2.del_ne n1, upd_ne n1, upd_ne n2, upd_ne n1]
    exact hb
end
/-- all but a is as it was -/
def Off (a : Addr) (H H' : Hp) : Prop := ∀ b u, b ≠ a → H b = some u → H' b = some u
/-! ### what is raised while a thing is locked: it is unlocked on the way out -/
def WUnl (X : Cx) (W : WX) : WX := fun cls dx σ H => ∃ d od u, H d = some (.frz od u) ∧ (∀ o' u', X.H_0 d ≠ some (.frz o' u')) ∧ W cls dx σ (upd H d u)
theorem takes_unl {X : Cx} {W : WX} (tk : Takes X W) : Takes X (WUnl X W) := by
  rintro u s' ⟨a, B, sI, pins, σ, H, cls, dx, e, I, nb, up, sky, na, os, ag, d, od, v, hd, hn, w⟩
  refine tk u s' ⟨a, B, sI, pins, σ, upd H d v, cls, dx, e, I.unlock hd hn, nb, up, sky, ?_, os, ag, w⟩
  rw [upd_ne fun z => by rw [z, hd] at na; cases na]
  exact na
theorem raise1U {X : Cx} {W : WX} {σ : L2.St} {C : Addr} {f : Str} {v : V} {H : Hp} (q : ∀ d H', H d = none → Same H H' → H' d = some (.xd [(f, v)]) → WUnl X W (.ref C) (some d) σ H') :
    [v].length ≤ 1000 ∧ ∀ a, H a = none → spExo C f (.ref a :: ([v] ++ [])) (upd H a (exo a C none))
      (fun u H2 => u = .non ∧ ∃ (d : Addr) (fs : List (Str × V)), H2 a = some (exo a C (some d)) ∧ H2 d = some (exd d fs) ∧ H d = none ∧ WUnl X W (.ref C) (some d) σ (upd (L2.del H2 a) d (.xd fs))) (fun _ _ _ => False) := raise1 (Q := fun cls d H' => WUnl X W cls d σ H') q
end RM

set_option Elab.async false
set_option linter.all false
set_option maxRecDepth 100000
set_option maxHeartbeats 2000000
namespace RM
open PySem PySem.Spec PyProof.Rows L2
/-- the first word of g that m lacks -/
def lack (m g : WM) : Option Str := (wKeys g).find? fun k => decide (k ∉ wKeys m)
theorem lack_none {m g : WM} (h : lack m g = none) : ∀ k ∈ wKeys g, k ∈ wKeys m := fun k hk => by
  have := List.find?_eq_none.mp h k hk
  simpa using this
theorem paired_at {α β : Type} {F : α → β → Prop} : ∀ {l : List α} {m : List β}, Paired F l m → ∀ {i : Nat} {x : α}, l[i]? = some x → ∃ y, m[i]? = some y ∧ F x y
  | _, _, .nil, i, x, h => by simp at h
  | _, _, .cons h t, 0, x, e => by
    obtain rfl : _ = x := Option.some.inj e
    exact ⟨_, rfl, h⟩
  | _, _, .cons h t, i + 1, x, e => paired_at t (i := i) (by simpa using e)
theorem lack_keys {m m' g : WM} (h : wKeys m = wKeys m') : lack m g = lack m' g := by unfold lack; rw [h]
theorem first_none {m : WM} {cs : List WM} (h : ∀ (i : Nat) (g : WM), cs[i]? = some g → lack m g = none) : cs.findSome? (lack m) = none := List.findSome?_eq_none_iff.mpr fun g hg => by
  obtain ⟨i, hi⟩ := List.getElem?_of_mem hg
  exact h i g hi
theorem first_some {m : WM} {cs : List WM} {i : Nat} {g : WM} {k : Str} (hi : cs[i]? = some g) (hk : lack m g = some k) (h : ∀ (j : Nat) (g' : WM), j < i → cs[j]? = some g' → lack m g' = none) : cs.findSome? (lack m) = some k := by
  have il := (List.getElem?_eq_some_iff.mp hi).1
  have e : cs = cs.take i ++ g :: cs.drop (i + 1) := by
    have := List.take_append_drop (i + 1) cs
    rw [List.take_add_one, hi] at this
    rw [List.append_assoc] at this
    exact this.symm
  rw [e, List.findSome?_append, List.findSome?_eq_none_iff.mpr, List.findSome?_cons, hk]
  · rfl
  · intro g' hg'
    obtain ⟨j, hj⟩ := List.getElem?_of_mem hg'
    have jl := (List.getElem?_eq_some_iff.mp hj).1
    rw [List.length_take] at jl
    rw [List.getElem?_take, if_pos (by omega)] at hj
    exact h j g' (by omega) hj
theorem paired_take {α β : Type} {F : α → β → Prop} : ∀ {l : List α} {m : List β}, Paired F l m → ∀ k, Paired F (l.take k) (m.take k)
  | _, _, .nil, k => by rw [List.take_nil, List.take_nil]; exact .nil
  | _, _, .cons h t, 0 => .nil
  | _, _, .cons h t, k + 1 => .cons h (paired_take t k)
theorem paired_drop {α β : Type} {F : α → β → Prop} : ∀ {l : List α} {m : List β}, Paired F l m → ∀ k, Paired F (l.drop k) (m.drop k)
  | _, _, .nil, k => by rw [List.drop_nil, List.drop_nil]; exact .nil
  | _, _, .cons h t, 0 => .cons h t
  | _, _, .cons h t, k + 1 => paired_drop t k
theorem paired_app {α β : Type} {F : α → β → Prop} : ∀ {l l2 : List α} {m m2 : List β}, Paired F l m → Paired F l2 m2 → Paired F (l ++ l2) (m ++ m2)
  | _, _, _, _, .nil, h => h
  | _, _, _, _, .cons h t, g => .cons h (paired_app t g)
theorem paired_mem {α β : Type} {F : α → β → Prop} : ∀ {l : List α} {m : List β}, Paired F l m → ∀ y ∈ m, ∃ x ∈ l, F x y
  | _, _, .cons (a := x) h t, y, hy => by
    rcases List.mem_cons.mp hy with rfl | hy
    · exact ⟨x, List.mem_cons_self, h⟩
    · obtain ⟨z, hz, hf⟩ := paired_mem t y hy
      exact ⟨z, List.mem_cons_of_mem _ hz, hf⟩
theorem paired_mem' {α β : Type} {F : α → β → Prop} : ∀ {l : List α} {m : List β}, Paired F l m → ∀ x ∈ l, ∃ y ∈ m, F x y
  | _, _, .cons (b := y) h t, x, hx => by
    rcases List.mem_cons.mp hx with rfl | hx
    · exact ⟨y, List.mem_cons_self, h⟩
    · obtain ⟨z, hz, hf⟩ := paired_mem' t x hx
      exact ⟨z, List.mem_cons_of_mem _ hz, hf⟩
end RM

set_option Elab.async false
set_option linter.all false
set_option maxRecDepth 100000
set_option maxHeartbeats 2000000
namespace RM
open PySem PySem.Spec PyProof.Rows L2
section
variable {P : Program} {w : World} {K : PySem.W.Frag} {mg : Str → Option Value} {base : Heap}
def SurAt (K : PySem.W.Frag) (H : Hp) (a : Addr) (m : WM) : Prop := MapAt H (He.ga K "Surroundings") "now" a m ∧ 1 ≤ m.length ∧ m.length ≤ 4
theorem SurAt.keep {H H' : Hp} {a : Addr} {m : WM} (e : Same H H') (h : SurAt K H a m) : SurAt K H' a m := ⟨h.1.keep e, h.2⟩
theorem SurAt.ok {H : Hp} {a : Addr} {m : WM} (h : SurAt K H a m) : okM m ∧ sortedS (wKeys m) = true := let ⟨⟨_, _, _, _, a, b⟩, _⟩ := h; ⟨a, b⟩
/-! ### NoKey -/
theorem sc_NoKey_init : FnScope ["self", "key"] ["self", "key"] (defScope s_NoKey_init) := ⟨rfl, rfl, rfl, by decide +kernel, rfl, by decide +kernel, by decide +kernel⟩
theorem c_NoKey_init (T : Top w K mg) : Exo P w K mg base 1 "NoKey" (He.ga K "NoKey") (spExo (He.ga K "NoKey") "key") := by
  refine exo_0 (f_NoKey_init T) (oexB_ok (oex_NoKey T)) (me_NoKey_init T) (g_NoKey T) sc_NoKey_init (fun _ _ _ _ _ _ us hl => match us, hl with | [_, _], _ => rfl) (fun vs H Q E h => match vs, h with | [_, _], _ => rfl) (fun cdv A outer s H vs Q E hr h => ?_)
  match vs, h with
  | [x, v], h =>
  obtain ⟨a, rfl, ha, q⟩ := h
  refine ⟨_, (pss_one (ps_ost (pv 0) (pv 1))), ?_⟩
  exact ⟨_, rfl, _, rfl, a, _, rfl, oexB_ok (oex_NoKey T), na_NoKey_key T, .inl ⟨ha, fun dx h1 h2 => q dx h1 h2⟩⟩
/-! ### keys_of -/
def spKeysOf (K : PySem.W.Frag) : Sp := fun vs H Q _ => match vs with
  | [x] => ∃ a m, x = .ref a ∧ SurAt K H a m ∧ ∀ p H', Same H H' → H p = none → H' p = some (.tup (m.map fun q => V.str q.1)) → Q (.ref p) H'
  | _ => False
theorem sc_Surroundings_keys_of : FnScope ["self"] ["self"] (defScope s_Surroundings_keys_of) := ⟨rfl, rfl, rfl, by decide +kernel, rfl, by decide +kernel, by decide +kernel⟩
theorem c_Surroundings_keys_of (T : Top w K mg) : Met P w K mg base CX0 1 (He.ga K "Surroundings") "keys_of" (spKeysOf K) := by
  refine met_0 (f_Surroundings_keys_of T) (k_Surroundings T) (me_Surroundings_keys_of T) sc_Surroundings_keys_of (fun _ _ _ _ _ _ us hl => match us, hl with | [_], _ => rfl) (fun vs H Q E h => match vs, h with | [_], _ => rfl) (fun cdv A outer s H vs Q E hr h => ?_)
  match vs, h with
  | [x], h =>
  obtain ⟨a, m, rfl, ⟨⟨dx, p, ha, hp, hg, hs⟩, hl⟩, q⟩ := h
  refine ⟨_, (pss_one (ps_ret (pct (z_tuple T) (call_tupleD rfl) boot_tuple (pa_cons (pe_fld (pv 0) rfl) pa_nil)))), ?_⟩
  refine ⟨_, rfl, a, _, dx, _, _, rfl, ha, k_Surroundings T, na_Surroundings_now T, rfl, p, mK m, rfl, .of hp, fun t ht => q t _ (smNew1 ht _) ht ?_⟩
  rw [upd_same]
  unfold mK
  rw [List.map_map]
  rfl
/-! ### changed -/
def spChanged (K : PySem.W.Frag) : Sp := fun vs H Q E => match vs with
  | [x, y] => ∃ b c m g, x = .ref b ∧ y = .ref c ∧ H b = some (.dK (mK m)) ∧ okM m ∧ m.length ≤ 4 ∧ ChgAt K H c g ∧
    (lack m g = none → ∀ p H', Same H H' → H p = none → H' p = some (.dK (mK (wOver m g))) → Q (.ref p) H') ∧
    (∀ k, lack m g = some k → ∀ d H', Same H H' → H' d = some (.xd [("key", .str k)]) → E (.ref (He.ga K "NoKey")) (some d) H')
  | _ => False
theorem sc_changed : FnScope ["values", "change", "key"] ["values", "change"] (defScope s_changed) := ⟨rfl, rfl, rfl, by decide +kernel, rfl, by decide +kernel, by decide +kernel⟩
theorem c_changed (T : Top w K mg) : Cal P w K mg base (L2.CX P w) 3 "changed" (spChanged K) := by
  refine cal_X (f_changed T) (g_changed T) sc_changed (fun _ _ _ _ _ _ us hl => match us, hl with | [_, _], _ => rfl) (fun vs H Q E h => match vs, h with | [_, _], _ => rfl) (fun cdv A outer s H vs Q E hr h => ?_)
  match vs, h with
  | [x, y], h =>
  obtain ⟨b, c, m, g, rfl, rfl, hb, okm, lm, ⟨⟨dx, p, hc, hp, okg, sg⟩, lg⟩, q, qE⟩ := h
  refine ⟨_, (pss_cons (ps_lock (ps_for (passes_of rfl) rfl (pi_keys (pe_fld (pv 1) rfl)) (pg_name (i := 2) sc_changed.nd rfl (Or.inl rfl))
      (pss_one (ps_if (pt_cmp (pc_dnotin (hu_of hr) (pv 2) (pv 0)))
      (pss_one (ps_raiseX (takes_unl (takes_of rfl rfl rfl rfl)) (c_NoKey_init T) hr (pa_cons (pv 2) pa_nil)))
      pss_nil))))
    (pss_one (ps_ret (pe_star2 (pv 0) (pe_fld (pv 1) rfl))))), ?_⟩
  have cp : c ≠ p := fun z => by rw [z, hp] at hc; cases hc
  refine ⟨p, .dK (mK g), hp, trivial, fun od => ?_⟩
  have hcL : (upd H p (.frz od (.dK (mK g)))) c = some (.ins (He.ga K "Change") dx [("given", .ref p)]) := by rw [upd_ne cp]; exact hc
  have lgK : (mK g).length = g.length := List.length_map ..
  refine ⟨_, rfl, c, _, dx, _, _, rfl, hcL, k_Change T, na_Change_given T, rfl, p, od, rfl, .inl ⟨mK g, upd_same, for_it walk_keys (fun i σ H' => H' = upd H p (.frz od (.dK (mK g))) ∧ (∀ k ∈ wKeys (g.take i), k ∈ wKeys m) ∧ ∃ v, σ = [some (.ref b), some (.ref c), v])
    ⟨rfl, fun k hk => by simp [wKeys] at hk, _, rfl⟩ (fun i σ H' _ h => by rw [h.1]; exact upd_same) ?_ ?_⟩⟩
  · rintro i x σ H1 H2 hi ⟨rfl, hk, v, rfl⟩ ⟨rfl, k, v2, hkv, rfl⟩
    obtain ⟨z, hz, rfl, rfl⟩ := mK_get hkv
    have tk : wKeys (g.take (i + 1)) = wKeys (g.take i) ++ [z.1] := by
      unfold wKeys
      rw [List.take_add_one, hz, List.map_append]
      rfl
    refine ⟨_, rfl, _, rfl, b, _, rfl, .inl ⟨mK m, .inr z.1, rd_lock hb hp, rfl, rfl⟩, _, rfl, ?_⟩
    rw [valV_get]
    by_cases hm : z.1 ∈ wKeys m
    · refine ifF (by
        cases e : wGet m z.1 with
        | none => exact absurd hm (wGet_none.mp e)
        | some n => rfl) ?_
      refine ⟨rfl, fun k hk' => ?_, _, rfl⟩
      rw [tk] at hk'
      rcases List.mem_append.mp hk' with h | h
      · exact hk k h
      · rw [List.mem_singleton.mp h]
        exact hm
    · refine ifT (by rw [wGet_none.mpr hm]; rfl) ?_
      refine ⟨_, rfl, ?_⟩
      refine raise1U fun d H' nd e hd => ?_
      have np : d ≠ p := fun z => by rw [z, upd_same] at nd; cases nd
      refine ⟨p, od, .dK (mK g), e _ _ upd_same, fun o' u' z => ?_, qE z.1 ?_ d _ (same_back hp e) (by rw [upd_ne np]; exact hd)⟩
      · have z' : H p = some (.frz o' u') := z
        rw [hp] at z'
        cases z'
      · unfold lack
        have il := (List.getElem?_eq_some_iff.mp hz).1
        have e2 : wKeys g = wKeys (g.take i) ++ z.1 :: wKeys (g.drop (i + 1)) := by
          have := List.take_append_drop (i + 1) g
          conv => lhs; rw [← this]
          unfold wKeys at tk ⊢
          rw [List.map_append, tk, List.append_assoc]
          rfl
        rw [e2, List.find?_append, List.find?_eq_none.mpr (fun k hk' => by simpa using hk k hk'), List.find?_cons_of_pos (by simpa using hm)]
        rfl
  · rintro σ H1 ⟨rfl, hk, v, rfl⟩
    refine ⟨upd_same, ?_⟩
    rw [upd_back hp]
    rw [lgK, List.take_length] at hk
    have nl : lack m g = none := List.find?_eq_none.mpr fun k hk' => by simpa using hk k hk'
    refine fun r nr => ?_
    have rb : b ≠ r := ne_of_none hb nr
    have rc : c ≠ r := ne_of_none hc nr
    have rp : p ≠ r := ne_of_none hp nr
    refine ⟨_, rfl, b, mK m, rfl, rb, upd_same, .of (by rw [upd_ne rb]; exact hb), ?_⟩
    refine ⟨_, rfl, c, _, dx, _, _, rfl, by rw [upd_ne rc, upd_ne rc]; exact hc, k_Change T, na_Change_given T, rfl, ?_⟩
    have e1 : mergeK [] (mK m) = mK m := by
      have := mergeK_w [] m
      rw [wOver_nil okm.2] at this
      exact this
    refine ⟨p, mK g, mK m, rfl, rp, by rw [upd_same, e1], .of (by rw [upd_ne rp, upd_ne rp]; exact hp), ?_, ?_⟩
    · rw [lgK]
      show (m.map _).length + _ ≤ _
      rw [List.length_map]
      exact Nat.le_of_lt (small1000 (by omega))
    · rw [mergeK_w]
      refine q nl r _ (fun a u ha => ?_) nr upd_same
      have := ne_of_none ha nr
      rw [upd_ne this, upd_ne this, upd_ne this]
      exact ha
/-! ### Surroundings + Change -/
theorem sorted_over {m g : WM} (s : sortedS (wKeys m) = true) (h : ∀ k ∈ wKeys g, k ∈ wKeys m) : sortedS (wKeys (wOver m g)) = true := by rw [wKeys_over h]; exact s
theorem len_keys {m g : WM} (h : wKeys m = wKeys g) : m.length = g.length := by
  have := congrArg List.length h
  unfold wKeys at this
  rwa [List.length_map, List.length_map] at this
def spAddS (K : PySem.W.Frag) : Sp := fun vs H Q E => match vs with
  | [x, y] => ∃ a c m g, x = .ref a ∧ y = .ref c ∧ SurAt K H a m ∧ ChgAt K H c g ∧
    (lack m g = none → ∀ p H', Same H H' → H p = none → SurAt K H' p (wOver m g) → Q (.ref p) H') ∧
    (∀ k, lack m g = some k → ∀ d H', Same H H' → H' d = some (.xd [("key", .str k)]) → E (.ref (He.ga K "NoKey")) (some d) H')
  | _ => False
theorem sc_Surroundings_add : FnScope ["self", "change"] ["self", "change"] (defScope s_Surroundings_add) := ⟨rfl, rfl, rfl, by decide +kernel, rfl, by decide +kernel, by decide +kernel⟩
theorem o_Surroundings_add (T : Top w K mg) : OwnX P w K mg base 6 (He.ga K "Surroundings") "__add__" (spAddS K) := by
  refine own_X (f_Surroundings_add T) (spc_Surroundings_add T) sc_Surroundings_add (fun _ _ _ _ _ _ us hl => match us, hl with | [_, _], _ => rfl) (fun vs H Q E h => match vs, h with | [_, _], _ => rfl) (fun cdv A outer s H vs Q E hr h => ?_)
  match vs, h with
  | [x, y], h =>
  obtain ⟨a, c, m, g, rfl, rfl, sa, sc, q, qE⟩ := h
  obtain ⟨⟨dx, p, ha, hp, okm, sm⟩, l1, l4⟩ := id sa
  obtain ⟨⟨dy, p2, hc, hp2, okg, sg⟩, lg⟩ := id sc
  refine ⟨_, (pss_cons (ps_if (pt_not (pt_val (pcb (z_isinstance T) call_isi boot_isinstance (pa_cons (pv 1) (pa_cons (pglR (g_Change T)) pa_nil)))))
      (pss_one ps_never)
      pss_nil)
    (pss_one (ps_ret (pmk (c_Surroundings_init T) hr (pa_cons (pcX (takes_of rfl rfl rfl rfl) (c_changed T) hr (pa_cons (pe_fld (pv 0) rfl) (pa_cons (pv 1) pa_nil))) pa_nil))))), ?_⟩
  refine ⟨_, rfl, _, _, _, _, true, rfl, .own _, .base (insB_ty (ins_Change T) (k_Change T) hc), kitC_ok (kit_Change_Change T), ?_⟩
  refine ⟨_, rfl, ifF rfl ?_⟩
  refine ⟨_, rfl, a, _, dx, _, _, rfl, ha, k_Surroundings T, na_Surroundings_now T, rfl, _, rfl, p, c, m, g, rfl, rfl, hp, okm, l4, sc, fun nl r H1 e1 nr hr1 => ?_, qE⟩
  intro x dx2 hx hdx hne
  have kk := wKeys_over (lack_none nl)
  have ll := len_keys kk
  have mI := mk_in (C := He.ga K "Surroundings") hx hdx hne
  refine ⟨x, dx2, r, wOver m g, rfl, rfl, upd_same, mI _ _ hr1, okM_over okm okg.1, by rw [ll]; exact l1, by rw [ll]; exact l4, fun H' m2 off mp pm => ⟨rfl, ?_⟩⟩
  have e2 : m2 = wOver m g := by
    obtain ⟨_, _, _, _, _, s2⟩ := id mp
    exact sort_one pm (nodup_over okm.2 g) (sorted_over sm (lack_none nl)) s2
  subst e2
  refine q nl x H' (e1.trans (mk_sm hx hdx off)) (e1.free hx) ⟨mp, by rw [ll]; exact l1, by rw [ll]; exact l4⟩
end
end RM

set_option Elab.async false
set_option linter.all false
set_option maxRecDepth 100000
set_option maxHeartbeats 2000000
namespace RM
open PySem PySem.Spec PyProof.Rows L2
theorem wGet_some_iff {m : WM} {k : Str} : ((wGet m k).map V.int).isSome = decide (k ∈ wKeys m) := by
  rw [Bool.eq_iff_iff, decide_eq_true_iff]
  cases e : wGet m k with
  | none => simp [wGet_none.mp e]
  | some n => simp; exact List.mem_map.mpr ⟨(k, n), wGet_some e, rfl⟩
section
variable {P : Program} {w : World} {K : PySem.W.Frag} {mg : Str → Option Value} {base : Heap}
/-! ### in -/
def spInS (K : PySem.W.Frag) : Sp := fun vs H Q _ => match vs with
  | [x, y] => ∃ a m k, x = .ref a ∧ y = .str k ∧ SurAt K H a m ∧ Q (.bl (decide (k ∈ wKeys m))) H
  | _ => False
theorem sc_Surroundings_contains : FnScope ["self", "key"] ["self", "key"] (defScope s_Surroundings_contains) := ⟨rfl, rfl, rfl, by decide +kernel, rfl, by decide +kernel, by decide +kernel⟩
theorem o_Surroundings_contains (T : Top w K mg) : OwnC P w K mg base CX0 1 (He.ga K "Surroundings") "__contains__" (spInS K) := by
  refine own_C0 (f_Surroundings_contains T) (spc_Surroundings_contains T) sc_Surroundings_contains (fun _ _ _ _ _ _ us hl => match us, hl with | [_, _], _ => rfl) (fun vs H Q E h => match vs, h with | [_, _], _ => rfl) (fun cdv A outer s H vs Q E hr h => ?_)
  match vs, h with
  | [x, y], h =>
  obtain ⟨a, m, k, rfl, rfl, ⟨⟨dx, p, ha, hp, okm, sm⟩, l1, l4⟩, q⟩ := h
  refine ⟨_, (pss_one (ps_ret (pe_cmp (pc_din (hu_of hr) (pv 1) (pe_fld (pv 0) rfl))))), ?_⟩
  refine ⟨_, rfl, _, rfl, a, _, dx, _, _, rfl, ha, k_Surroundings T, na_Surroundings_now T, rfl, p, _, rfl, .inl ⟨mK m, .inr k, .of hp, rfl, rfl⟩, ?_⟩
  rw [valV_get, wGet_some_iff]
  exact q
/-! ### [] -/
def spGetS (K : PySem.W.Frag) : Sp := fun vs H Q E => match vs with
  | [x, y] => ∃ a m k, x = .ref a ∧ y = .str k ∧ SurAt K H a m ∧ (∀ n, wGet m k = some n → Q (.int n) H) ∧ (k ∉ wKeys m → ∀ d H', Same H H' → H' d = some (.xd [("key", .str k)]) → E (.ref (He.ga K "NoKey")) (some d) H')
  | _ => False
theorem sc_Surroundings_getitem : FnScope ["self", "key"] ["self", "key"] (defScope s_Surroundings_getitem) := ⟨rfl, rfl, rfl, by decide +kernel, rfl, by decide +kernel, by decide +kernel⟩
theorem o_Surroundings_getitem (T : Top w K mg) : OwnC P w K mg base (L2.CX P w) 3 (He.ga K "Surroundings") "__getitem__" (spGetS K) := by
  refine own_CX (f_Surroundings_getitem T) (spc_Surroundings_getitem T) sc_Surroundings_getitem (fun _ _ _ _ _ _ us hl => match us, hl with | [_, _], _ => rfl) (fun vs H Q E h => match vs, h with | [_, _], _ => rfl) (fun cdv A outer s H vs Q E hr h => ?_)
  match vs, h with
  | [x, y], h =>
  obtain ⟨a, m, k, rfl, rfl, ⟨⟨dx, p, ha, hp, okm, sm⟩, l1, l4⟩, q, qE⟩ := h
  refine ⟨_, (pss_cons (ps_if (pt_cmp (pc_dnotin (hu_of hr) (pv 1) (pe_fld (pv 0) rfl)))
      (pss_one (ps_raiseX (takes_of rfl rfl rfl rfl) (c_NoKey_init T) hr (pa_cons (pv 1) pa_nil)))
      pss_nil)
    (pss_one (ps_ret (pe_dget (hu_of hr) (pe_fld (pv 0) rfl) (pv 1) (fun _ _ => rfl))))), ?_⟩
  refine ⟨_, rfl, _, rfl, a, _, dx, _, _, rfl, ha, k_Surroundings T, na_Surroundings_now T, rfl, p, _, rfl, .inl ⟨mK m, .inr k, .of hp, rfl, rfl⟩, _, rfl, ?_⟩
  rw [valV_get]
  cases e : wGet m k with
  | none =>
    refine ifT rfl ⟨_, rfl, ?_⟩
    exact raise1 fun d H' _ e' hd => qE (wGet_none.mp e) d H' e' hd
  | some n =>
    refine ifF rfl ?_
    exact ⟨_, rfl, a, _, dx, _, _, rfl, ha, k_Surroundings T, na_Surroundings_now T, rfl, _, rfl, p, .int n, rfl, .inl ⟨mK m, .inr k, .of hp, rfl, by rw [valV_get, e]; rfl⟩, q n e⟩
/-! ### += -/
def spIadS (K : PySem.W.Frag) : Sp := fun vs H Q E => match vs with
  | [x, y] => ∃ a c m g, x = .ref a ∧ y = .ref c ∧ SurAt K H a m ∧ ChgAt K H c g ∧
    (lack m g = none → ∀ dx p0 p H1, H a = some (.ins (He.ga K "Surroundings") dx [("now", .ref p0)]) → Same H H1 → H p = none → H1 p = some (.dK (mK (wOver m g))) → Q (.ref a) (upd H1 a (.ins (He.ga K "Surroundings") dx [("now", .ref p)]))) ∧
    (∀ k, lack m g = some k → ∀ d H', Same H H' → H' d = some (.xd [("key", .str k)]) → E (.ref (He.ga K "NoKey")) (some d) H')
  | _ => False
theorem sc_Surroundings_iadd : FnScope ["self", "change"] ["self", "change"] (defScope s_Surroundings_iadd) := ⟨rfl, rfl, rfl, by decide +kernel, rfl, by decide +kernel, by decide +kernel⟩
theorem o_Surroundings_iadd (T : Top w K mg) : OwnC P w K mg base (L2.CX P w) 4 (He.ga K "Surroundings") "__iadd__" (spIadS K) := by
  refine own_CX (f_Surroundings_iadd T) (spc_Surroundings_iadd T) sc_Surroundings_iadd (fun _ _ _ _ _ _ us hl => match us, hl with | [_, _], _ => rfl) (fun vs H Q E h => match vs, h with | [_, _], _ => rfl) (fun cdv A outer s H vs Q E hr h => ?_)
  match vs, h with
  | [x, y], h =>
  obtain ⟨a, c, m, g, rfl, rfl, sa, sc, q, qE⟩ := h
  obtain ⟨⟨dx, p, ha, hp, okm, sm⟩, l1, l4⟩ := id sa
  obtain ⟨⟨dy, p2, hc, hp2, okg, sg⟩, lg⟩ := id sc
  refine ⟨_, (pss_cons (ps_if (pt_not (pt_val (pcb (z_isinstance T) call_isi boot_isinstance (pa_cons (pv 1) (pa_cons (pglR (g_Change T)) pa_nil)))))
      (pss_one ps_never)
      pss_nil)
    (pss_cons (ps_fld (pv 0) (pcX (takes_of rfl rfl rfl rfl) (c_changed T) hr (pa_cons (pe_fld (pv 0) rfl) (pa_cons (pv 1) pa_nil))) rfl)
    (pss_one (ps_ret (pv 0))))), ?_⟩
  refine ⟨_, rfl, _, _, _, _, true, rfl, .own _, .base (insB_ty (ins_Change T) (k_Change T) hc), kitC_ok (kit_Change_Change T), ?_⟩
  refine ⟨_, rfl, ifF rfl ?_⟩
  refine ⟨_, rfl, a, _, dx, _, _, rfl, ha, k_Surroundings T, na_Surroundings_now T, rfl, _, rfl, p, c, m, g, rfl, rfl, hp, okm, l4, sc, fun nl r H1 e1 nr hr1 => ?_, qE⟩
  refine ⟨_, rfl, a, _, dx, _, rfl, e1 _ _ ha, k_Surroundings T, na_Surroundings_now T, (by show 1 < 1000; decide), ?_⟩
  exact ⟨_, rfl, q nl dx p r H1 ha e1 nr hr1⟩
end
end RM

set_option Elab.async false
set_option linter.all false
set_option maxRecDepth 100000
set_option maxHeartbeats 2000000
/-! states that changes lead to -/
namespace RM
open PySem PySem.Spec PyProof.Rows L2
/-- the values behind a change -/
def stepS (ks : List Str) (g : WM) (vs : List Int) : List Int := (ks.zip vs).map fun q => (wGet g q.1).getD q.2
theorem stepS_len {ks : List Str} {g : WM} {vs : List Int} (h : vs.length = ks.length) : (stepS ks g vs).length = ks.length := by
  unfold stepS
  rw [List.length_map, List.length_zip]
  omega
theorem zip_keys {ks : List Str} {vs : List Int} (h : vs.length = ks.length) : wKeys (ks.zip vs) = ks := by
  unfold wKeys
  exact List.map_fst_zip (by omega)
theorem zip_vals {ks : List Str} {vs : List Int} (h : vs.length = ks.length) : wVals (ks.zip vs) = vs := by
  unfold wVals
  exact List.map_snd_zip (by omega)
theorem zip_self (m : WM) : (wKeys m).zip (wVals m) = m := by
  induction m with
  | nil => rfl
  | cons q r ih =>
    show (q.1, q.2) :: (wKeys r).zip (wVals r) = _
    rw [ih]
theorem vals_over {ks : List Str} {vs : List Int} {g : WM} (hn : ks.Nodup) (hl : vs.length = ks.length) (gn : (wKeys g).Nodup) (sub : ∀ k ∈ wKeys g, k ∈ ks) : wVals (wOver (ks.zip vs) g) = stepS ks g vs := by
  have kz := zip_keys hl
  have n0 : (wKeys (ks.zip vs)).Nodup := by rw [kz]; exact hn
  have kk : wKeys (wOver (ks.zip vs) g) = ks := by rw [wKeys_over (by rw [kz]; exact sub), kz]
  have e := w_ext (nodup_over n0 g)
  rw [kk] at e
  rw [e]
  unfold wVals stepS
  rw [List.map_map]
  have key : ∀ l : WM, (∀ q ∈ l, q ∈ ks.zip vs) → (wKeys l).map (fun k => (wGet (wOver (ks.zip vs) g) k).getD 0) = l.map fun q => (wGet g q.1).getD q.2 := by
    intro l
    induction l with
    | nil => intro _; rfl
    | cons q r ih =>
      intro h
      have hq := h q List.mem_cons_self
      show (wGet (wOver (ks.zip vs) g) q.1).getD 0 :: _ = _
      rw [wGet_over gn, wGet_mem n0 hq]
      show ((wGet g q.1).or (some q.2)).getD 0 :: _ = (wGet g q.1).getD q.2 :: _
      have : ((wGet g q.1).or (some q.2)).getD 0 = (wGet g q.1).getD q.2 := by cases wGet g q.1 <;> rfl
      rw [this]
      exact congrArg _ (ih fun x hx => h x (List.mem_cons_of_mem _ hx))
  have := key (ks.zip vs) fun _ h => h
  rw [kz] at this
  exact this
/-- what the changes add, from one state on -/
def grow (ks : List Str) (cs : List WM) (l : List (List Int)) (v : List Int) : List (List Int) := cs.foldl (fun l g => if stepS ks g v ∈ l then l else l ++ [stepS ks g v]) l
/-- what is found behind n states -/
def lev (ks : List Str) (cs : List WM) (s : List Int) : Nat → List (List Int)
  | 0 => [s]
  | n + 1 => match (lev ks cs s n)[n]? with
    | some v => grow ks cs (lev ks cs s n) v
    | none => lev ks cs s n
section
variable {ks : List Str} {cs : List WM} {s v : List Int} {l : List (List Int)} {n : Nat}
theorem grow_take {i : Nat} {g : WM} (h : cs[i]? = some g) : grow ks (cs.take (i + 1)) l v = if stepS ks g v ∈ grow ks (cs.take i) l v then grow ks (cs.take i) l v else grow ks (cs.take i) l v ++ [stepS ks g v] := by
  unfold grow
  rw [List.take_add_one, h, List.foldl_append]
  rfl
theorem grow_pre : ∃ t, grow ks cs l v = l ++ t := by
  induction cs generalizing l with
  | nil => exact ⟨[], (List.append_nil l).symm⟩
  | cons g r ih =>
    show ∃ t, grow ks r (if stepS ks g v ∈ l then l else l ++ [stepS ks g v]) v = l ++ t
    by_cases h : stepS ks g v ∈ l
    · rw [if_pos h]
      exact ih
    · rw [if_neg h]
      obtain ⟨t, e⟩ := ih (l := l ++ [stepS ks g v])
      exact ⟨stepS ks g v :: t, by rw [e, List.append_assoc]; rfl⟩
theorem grow_le : l.length ≤ (grow ks cs l v).length := by
  obtain ⟨t, e⟩ := grow_pre (ks := ks) (cs := cs) (l := l) (v := v)
  rw [e, List.length_append]
  omega
theorem grow_part (i : Nat) : (grow ks (cs.take i) l v).length ≤ (grow ks cs l v).length := by
  have : grow ks cs l v = grow ks (cs.drop i) (grow ks (cs.take i) l v) v := by
    unfold grow
    rw [← List.foldl_append, List.take_append_drop]
  rw [this]
  exact grow_le
theorem lev_pre : ∃ t, lev ks cs s (n + 1) = lev ks cs s n ++ t := by
  show ∃ t, (match (lev ks cs s n)[n]? with | some v => grow ks cs (lev ks cs s n) v | none => lev ks cs s n) = _
  cases (lev ks cs s n)[n]? with
  | none => exact ⟨[], (List.append_nil _).symm⟩
  | some v => exact grow_pre
theorem lev_le : (lev ks cs s n).length ≤ (lev ks cs s (n + 1)).length := by
  obtain ⟨t, e⟩ := lev_pre (ks := ks) (cs := cs) (s := s) (n := n)
  rw [e, List.length_append]
  omega
theorem lev_stop (h : (lev ks cs s n).length ≤ n) : ∀ k, lev ks cs s (n + k) = lev ks cs s n
  | 0 => rfl
  | k + 1 => by
    have ih := lev_stop h k
    show (match (lev ks cs s (n + k))[n + k]? with | some v => grow ks cs (lev ks cs s (n + k)) v | none => lev ks cs s (n + k)) = _
    rw [ih, List.getElem?_eq_none (by omega)]
theorem lev_mono {m : Nat} (h : n ≤ m) : (lev ks cs s n).length ≤ (lev ks cs s m).length := by
  obtain ⟨k, rfl⟩ : ∃ k, m = n + k := ⟨m - n, by omega⟩
  clear h
  induction k with
  | zero => exact Nat.le_refl _
  | succ k ih => exact Nat.le_trans ih lev_le
theorem lev_pos : 1 ≤ (lev ks cs s n).length := Nat.le_trans (Nat.le_refl 1) (lev_mono (n := 0) (Nat.zero_le n))
theorem grow_nodup (h : l.Nodup) : (grow ks cs l v).Nodup := by
  induction cs generalizing l with
  | nil => exact h
  | cons g r ih =>
    show (grow ks r (if stepS ks g v ∈ l then l else l ++ [stepS ks g v]) v).Nodup
    by_cases e : stepS ks g v ∈ l
    · rw [if_pos e]
      exact ih h
    · rw [if_neg e]
      refine ih (List.nodup_append.mpr ⟨h, by simp, fun x hx y hy z => ?_⟩)
      rw [List.mem_singleton.mp hy] at z
      exact e (z ▸ hx)
theorem lev_nodup : ∀ n, (lev ks cs s n).Nodup
  | 0 => by simp [lev]
  | n + 1 => by
    show (match (lev ks cs s n)[n]? with | some v => grow ks cs (lev ks cs s n) v | none => lev ks cs s n).Nodup
    cases (lev ks cs s n)[n]? with
    | none => exact lev_nodup n
    | some v => exact grow_nodup (lev_nodup n)
/-- what holds of the first state and behind each change holds of all -/
theorem grow_all {Pr : List Int → Prop} (hl : ∀ x ∈ l, Pr x) (hv : ∀ g ∈ cs, Pr (stepS ks g v)) : ∀ x ∈ grow ks cs l v, Pr x := by
  induction cs generalizing l with
  | nil => exact hl
  | cons g r ih =>
    refine ih (l := if stepS ks g v ∈ l then l else l ++ [stepS ks g v]) (fun x hx => ?_) fun g' hg' => hv g' (List.mem_cons_of_mem _ hg')
    by_cases e : stepS ks g v ∈ l
    · rw [if_pos e] at hx
      exact hl x hx
    · rw [if_neg e] at hx
      rcases List.mem_append.mp hx with h | h
      · exact hl x h
      · rw [List.mem_singleton.mp h]
        exact hv g List.mem_cons_self
theorem lev_all {Pr : List Int → Prop} (h0 : Pr s) (hs : ∀ g ∈ cs, ∀ x, Pr x → Pr (stepS ks g x)) : ∀ n, ∀ x ∈ lev ks cs s n, Pr x
  | 0, x, hx => by
    rw [show lev ks cs s 0 = [s] from rfl] at hx
    rw [List.mem_singleton.mp hx]
    exact h0
  | n + 1, x, hx => by
    have ih := lev_all h0 hs n
    have hx' : x ∈ (match (lev ks cs s n)[n]? with | some v => grow ks cs (lev ks cs s n) v | none => lev ks cs s n) := hx
    cases e : (lev ks cs s n)[n]? with
    | none => rw [e] at hx'; exact ih x hx'
    | some v =>
      rw [e] at hx'
      exact grow_all ih (fun g hg => hs g hg v (ih v (List.mem_of_getElem? e))) x hx'
/-- two searches that stop answer alike: one at 16, one at 100 -/
theorem lev_same {n m : Nat} (hn : (lev ks cs s n).length ≤ n) (hm : (lev ks cs s m).length ≤ m) : lev ks cs s n = lev ks cs s m := by
  rcases Nat.le_total n m with h | h
  · obtain ⟨k, rfl⟩ : ∃ k, m = n + k := ⟨m - n, by omega⟩
    exact (lev_stop hn k).symm
  · obtain ⟨k, rfl⟩ : ∃ k, n = m + k := ⟨n - m, by omega⟩
    exact lev_stop hm k
end
/-! ### states as data -/
def stD (s : List Int) : PyData := .tuple (s.map .int)
def stL (s : List Int) : PyData := .list (s.map .int)
theorem eqv_ints : ∀ a b : List Int, PyData.eqvAll (a.map .int) (b.map .int) = decide (a = b)
  | [], [] => rfl
  | [], _ :: _ => rfl
  | _ :: _, [] => rfl
  | x :: a, y :: b => by
    rw [List.map_cons, List.map_cons, PyData.eqvAll, eqv_ints a b]
    show (x == y && decide (a = b)) = decide (x :: a = y :: b)
    rw [Bool.eq_iff_iff, Bool.and_eq_true, beq_iff_eq, decide_eq_true_iff, decide_eq_true_iff, List.cons.injEq]
theorem any_st (l : List (List Int)) (s : List Int) : ((l.map stD).any fun z => PyData.eqv z (stD s)) = decide (s ∈ l) := by
  rw [Bool.eq_iff_iff, List.any_eq_true, decide_eq_true_iff]
  constructor
  · rintro ⟨z, hz, e⟩
    obtain ⟨x, hx, rfl⟩ := List.mem_map.mp hz
    have e' : PyData.eqvAll (x.map .int) (s.map .int) = true := e
    rw [eqv_ints] at e'
    rw [← of_decide_eq_true e']
    exact hx
  · intro h
    exact ⟨stD s, List.mem_map.mpr ⟨s, h, rfl⟩, by show PyData.eqvAll _ _ = true; rw [eqv_ints]; exact decide_eq_true rfl⟩
theorem any_sl (l : List (List Int)) (s : List Int) : ((l.map stL).any fun z => PyData.eqv z (stL s)) = decide (s ∈ l) := by
  rw [Bool.eq_iff_iff, List.any_eq_true, decide_eq_true_iff]
  constructor
  · rintro ⟨z, hz, e⟩
    obtain ⟨x, hx, rfl⟩ := List.mem_map.mp hz
    have e' : PyData.eqvAll (x.map .int) (s.map .int) = true := e
    rw [eqv_ints] at e'
    rw [← of_decide_eq_true e']
    exact hx
  · intro h
    exact ⟨stL s, List.mem_map.mpr ⟨s, h, rfl⟩, by show PyData.eqvAll _ _ = true; rw [eqv_ints]; exact decide_eq_true rfl⟩
theorem ints_lay : ∀ s : List Int, PyData.canLayAll0 (s.map .int) = true
  | [] => rfl
  | i :: r => by
    rw [List.map_cons, PyData.canLayAll0, ints_lay r]
    rfl
theorem ints_dep : ∀ s : List Int, PyData.depthAll (s.map .int) ≤ 1
  | [] => by simp [PyData.depthAll]
  | i :: r => by
    have := ints_dep r
    simp only [List.map_cons, PyData.depthAll, PyData.depth]
    omega
theorem st_dep (s : List Int) : (stD s).depth ≤ 2 := by
  show PyData.depthAll (s.map .int) + 1 ≤ 2
  have := ints_dep s
  omega
theorem sl_dep (s : List Int) : (stL s).depth ≤ 2 := by
  show PyData.depthAll (s.map .int) + 1 ≤ 2
  have := ints_dep s
  omega
theorem all_lay {f : List Int → PyData} (h : ∀ s, (f s).canLay0 = true) : ∀ l : List (List Int), PyData.canLayAll0 (l.map f) = true
  | [] => rfl
  | s :: r => by
    rw [List.map_cons, PyData.canLayAll0, all_lay h r, h s]
    rfl
theorem all_dep {f : List Int → PyData} (h : ∀ s, (f s).depth ≤ 2) : ∀ l : List (List Int), PyData.depthAll (l.map f) ≤ 2
  | [] => by simp [PyData.depthAll]
  | s :: r => by
    have := all_dep h r
    have := h s
    simp only [List.map_cons, PyData.depthAll]
    omega
theorem st_shaped (s : List Int) : SeqAt.shaped (stD s) = true := by
  unfold SeqAt.shaped
  rw [show (stD s).canLay0 = true from ints_lay s, decide_eq_true (by have := st_dep s; omega)]
  rfl
theorem sl_shaped (s : List Int) : SeqAt.shaped (stL s) = true := by
  unfold SeqAt.shaped
  rw [show (stL s).canLay0 = true from ints_lay s, decide_eq_true (by have := sl_dep s; omega)]
  rfl
theorem sts_shaped (l : List (List Int)) : SeqAt.shaped (.list (l.map stD)) = true := by
  unfold SeqAt.shaped
  rw [show (PyData.list (l.map stD)).canLay0 = true from all_lay (f := stD) (fun s => ints_lay s) l, decide_eq_true (by show PyData.depthAll _ + 1 ≤ _; have := all_dep st_dep l; omega)]
  rfl
theorem sls_shaped (l : List (List Int)) : SeqAt.shaped (.list (l.map stL)) = true := by
  unfold SeqAt.shaped
  rw [show (PyData.list (l.map stL)).canLay0 = true from all_lay (f := stL) (fun s => ints_lay s) l, decide_eq_true (by show PyData.depthAll _ + 1 ≤ _; have := all_dep sl_dep l; omega)]
  rfl
/-! ### one order alone -/
theorem code_inj {B : Int} : ∀ {a b : List Int}, a.length = b.length → _root_.TS.Bd B a → _root_.TS.Bd B b → _root_.TS.code B a = _root_.TS.code B b → a = b
  | [], [], _, _, _, _ => rfl
  | [], _ :: _, h, _, _, _ => by simp at h
  | _ :: _, [], h, _, _, _ => by simp at h
  | x :: a, y :: b, h, ha, hb, e => by
    have hl : a.length = b.length := by simpa using h
    have xy : x = y := by
      rcases Int.lt_trichotomy x y with z | z | z
      · have := _root_.TS.code_lt hl ha.tail hb.tail z
        omega
      · exact z
      · have := _root_.TS.code_lt hl.symm hb.tail ha.tail z
        omega
    subst xy
    have e' : x * B ^ a.length + _root_.TS.code B a = x * B ^ b.length + _root_.TS.code B b := e
    rw [hl] at e'
    rw [code_inj hl ha.tail hb.tail (by omega)]
theorem perm_one {d : Nat} {B : Int} : ∀ {l m : List (List Int)}, l.Perm m → l.Nodup → (∀ x ∈ l, x.length = d ∧ _root_.TS.Bd B x) → l.Pairwise (fun a b => _root_.TS.code B a ≤ _root_.TS.code B b) → m.Pairwise (fun a b => _root_.TS.code B a ≤ _root_.TS.code B b) → l = m
  | [], m, p, _, _, _, _ => by rw [List.nil_perm.mp p]
  | x :: l, [], p, _, _, _, _ => by simpa using p.length_eq
  | x :: l, y :: m, p, n, h, s1, s2 => by
    obtain ⟨a1, a2⟩ := List.pairwise_cons.mp s1
    obtain ⟨b1, b2⟩ := List.pairwise_cons.mp s2
    obtain ⟨c1, c2⟩ := List.nodup_cons.mp n
    have hx := h x List.mem_cons_self
    have hy := h y (p.mem_iff.mpr List.mem_cons_self)
    have le1 : _root_.TS.code B x ≤ _root_.TS.code B y := by
      rcases List.mem_cons.mp (p.mem_iff.mpr (List.mem_cons_self (a := y) (l := m))) with e | e
      · rw [e]; exact Int.le_refl _
      · exact a1 y e
    have le2 : _root_.TS.code B y ≤ _root_.TS.code B x := by
      rcases List.mem_cons.mp (p.mem_iff.mp (List.mem_cons_self (a := x) (l := l))) with e | e
      · rw [e]; exact Int.le_refl _
      · exact b1 x e
    have e : x = y := code_inj (hx.1.trans hy.1.symm) hx.2 hy.2 (Int.le_antisymm le1 le2)
    subst e
    rw [perm_one (List.perm_cons x |>.mp p) c2 (fun z hz => h z (List.mem_cons_of_mem _ hz)) a2 b2]
end RM

set_option Elab.async false
set_option linter.all false
set_option maxRecDepth 100000
set_option maxHeartbeats 4000000
namespace RM
open PySem PySem.Spec PyProof.Rows L2
theorem room65 {k : Nat} {A : Around} (hr : Room k A) : A.units + 65 < cLine := by have := hr.un; omega
theorem zip_mK (m : WM) (us : List Int) : (m.map fun q => (Sum.inr q.1 : Key)).zip (us.map V.int) = mK ((wKeys m).zip us) := by
  induction m generalizing us with
  | nil => rfl
  | cons q r ih =>
    cases us with
    | nil => rfl
    | cons u us =>
      exact congrArg (List.cons ((Sum.inr q.1 : Key), V.int u)) (ih us)
theorem merge_nil {m : WM} (h : (wKeys m).Nodup) : mergeK [] (mK m) = mK m := by
  have := mergeK_w [] m
  rw [wOver_nil h] at this
  exact this
theorem okM_zip {m : WM} {us : List Int} (h : okM m) (l : us.length = m.length) (hu : ∀ u ∈ us, isValue u = true) : okM ((wKeys m).zip us) := by
  refine ⟨fun q hq => ?_, ?_⟩
  · have h1 := List.of_mem_zip hq
    obtain ⟨p, hp, e⟩ := List.mem_map.mp h1.1
    exact ⟨by rw [← e]; exact (h.1 p hp).1, hu _ h1.2⟩
  · show (wKeys _).Nodup
    rw [zip_keys (by rw [l]; exact (List.length_map ..).symm)]
    exact h.2
section
variable {P : Program} {w : World} {K : PySem.W.Frag} {mg : Str → Option Value} {base : Heap}
theorem MapAt.updL {H : Hp} {C p : Addr} {f : Str} {a : Addr} {m : WM} {xs ys : List V} (hp : H p = some (.lst xs)) (h : MapAt H C f a m) : MapAt (upd H p (.lst ys)) C f a m := by
  obtain ⟨dx, q, h1, h2, h3⟩ := h
  refine ⟨dx, q, ?_, ?_, h3⟩
  · rw [upd_ne fun z => by rw [z, hp] at h1; cases h1]
    exact h1
  · rw [upd_ne fun z => by rw [z, hp] at h2; cases h2]
    exact h2
theorem SurAt.updL {H : Hp} {p : Addr} {a : Addr} {m : WM} {xs ys : List V} (hp : H p = some (.lst xs)) (h : SurAt K H a m) : SurAt K (upd H p (.lst ys)) a m := ⟨h.1.updL hp, h.2⟩
theorem dps_ints {H : Hp} : ∀ {s : List Int} {xs : List V}, DpAll K H xs (s.map .int) → xs = s.map V.int
  | [], _, h => DpAll.nil_inv h
  | i :: s, _, h => by
    obtain ⟨v, r, rfl, h1, h2⟩ := DpAll.cons_inv h
    rw [Dp.int_inv h1, dps_ints h2]
    rfl
theorem dp_st {H : Hp} {v : V} {s : List Int} (h : Dp K H v (stD s)) : ∃ t, v = .ref t ∧ SqT K H t (s.map V.int) := by
  obtain ⟨t, xs, rfl, h1, h2⟩ := Dp.tup_inv h
  rw [dps_ints h2] at h1
  exact ⟨t, rfl, h1⟩
theorem ints_dps {H : Hp} : ∀ s : List Int, DpAll K H (s.map V.int) (s.map .int)
  | [] => .nil
  | i :: s => .cons (.int i) (ints_dps s)
theorem st_dp {H : Hp} {t : Addr} {s : List Int} (h : SqT K H t (s.map V.int)) : Dp K H (.ref t) (stD s) := .tup h (ints_dps s)
theorem noL_st (s : List Int) : noL (stD s) = true := by
  show noLs (s.map .int) = true
  induction s with
  | nil => rfl
  | cons i r ih =>
    rw [List.map_cons, noLs, ih]
    rfl
theorem noLs_sts : ∀ l : List (List Int), noLs (l.map stD) = true
  | [] => rfl
  | s :: r => by rw [List.map_cons, noLs, noLs_sts r, noL_st s]; rfl
theorem MapAt.off {H H' : Hp} {C p : Addr} {f : Str} {a : Addr} {m : WM} {xs : List V} (hp : H p = some (.lst xs)) (o : Off p H H') (h : MapAt H C f a m) : MapAt H' C f a m := by
  obtain ⟨dx, q, h1, h2, h3⟩ := h
  exact ⟨dx, q, o _ _ (fun z => by rw [z, hp] at h1; cases h1) h1, o _ _ (fun z => by rw [z, hp] at h2; cases h2) h2, h3⟩
theorem SurAt.off {H H' : Hp} {p a : Addr} {m : WM} {xs : List V} (hp : H p = some (.lst xs)) (o : Off p H H') (h : SurAt K H a m) : SurAt K H' a m := ⟨h.1.off hp o, h.2⟩
theorem ChgAt.off {H H' : Hp} {p a : Addr} {m : WM} {xs : List V} (hp : H p = some (.lst xs)) (o : Off p H H') (h : ChgAt K H a m) : ChgAt K H' a m := ⟨h.1.off hp o, h.2⟩
theorem Off.refl (p : Addr) (H : Hp) : Off p H H := fun _ _ _ h => h
theorem Off.trans {p : Addr} {H H1 H2 : Hp} (a : Off p H H1) (b : Off p H1 H2) : Off p H H2 := fun c u n h => b c u n (a c u n h)
theorem off_sm {p : Addr} {H H' : Hp} (e : Same H H') : Off p H H' := fun b u _ h => e b u h
theorem off_upd {p : Addr} {H : Hp} {o : HO} : Off p H (upd H p o) := fun b u n h => by rw [upd_ne n]; exact h
theorem sqL_off {H H' : Hp} {p a : Addr} {xs : List V} (o : Off p H H') (ne : a ≠ p) (h : SqL K H a xs) : SqL K H' a xs := h.imp (Or.imp (o _ _ ne) fun ⟨q, at_⟩ => ⟨q, o _ _ ne at_⟩) id
theorem sqT_off {H H' : Hp} {p a : Addr} {xs : List V} (o : Off p H H') (ne : a ≠ p) (h : SqT K H a xs) : SqT K H' a xs := h.imp (Or.imp (o _ _ ne) fun ⟨q, at_⟩ => ⟨q, o _ _ ne at_⟩) id
/-- a sequence is walked while the thing at p is changed -/
theorem seqA_off {H : Hp} {a p : Addr} {xs : List V} {R : It → Hp → Prop} (h : SqA K H a xs) (ne : a ≠ p) (q : ∀ J, Walk J xs.length (fun H' => Off p H H') (YAt xs) → R J H) : SeqG K (.ref a) H R := by
  unfold SeqG
  rcases h with h | h
  · exact ⟨a, rfl, .inl ⟨xs, h, q _ (walk_list.mono (fun H' e => sqL_off e ne h) fun i H x H' _ _ y => y)⟩⟩
  · exact ⟨a, rfl, .inr ⟨xs, h, q _ (walk_tup.mono (fun H' e => sqT_off e ne h) fun i H x H' _ _ y => y)⟩⟩
end
end RM

set_option Elab.async false
set_option linter.all false
set_option maxRecDepth 100000
set_option maxHeartbeats 2000000
namespace RM
open PySem PySem.Spec PyProof.Rows L2
theorem flats_flat (s : Stm) : ∀ d ∈ s.flats, (∃ z, d = .str z) ∨ ∃ n, d = .int n := by
  cases s <;> simp [Stm.flats]
theorem filterMap_at2 {α β : Type} (l : List α) (f : α → Option β) : (List.range l.length).filterMap (fun i => (l[i]?).bind f) = l.filterMap f := by
  have := congrArg (List.filterMap f) (some_range l)
  rw [List.filterMap_filterMap] at this
  exact this
/-- the items behind the first k -/
theorem bodies_from {α β : Type} (k : Nat) (l : List α) (g : α → β) : (List.range (k + l.length)).filterMap (fun i => if i < k then none else (l[i - k]?).map g) = l.map g := by
  have e : ∀ n, n ≤ l.length → (List.range (k + n)).filterMap (fun i => if i < k then none else (l[i - k]?).map g) = (l.take n).map g := by
    intro n
    induction n with
    | zero =>
      intro _
      rw [Nat.add_zero, List.take_zero]
      show _ = []
      rw [List.filterMap_eq_nil_iff]
      intro i hi
      rw [if_pos (List.mem_range.mp hi)]
    | succ n ih =>
      intro hn
      have hl : n < l.length := by omega
      rw [show k + (n + 1) = (k + n) + 1 from rfl, List.range_succ, List.filterMap_append, ih (by omega), take_more (List.getElem?_eq_getElem hl), List.map_append, List.filterMap_cons, if_neg (by omega), Nat.add_sub_cancel_left, List.getElem?_eq_getElem hl]
      rfl
  rw [e _ (Nat.le_refl _), List.take_length]
/-- the i-th item of a statement behind its word -/
theorem item_at (s : Stm) (f : List Stm → PyData) {i : Nat} {d : PyData} (h : (s.flats ++ s.bodies.map f)[i]? = some d) :
    (i < s.flats.length ∧ ((∃ z, d = .str z) ∨ ∃ n, d = .int n)) ∨ (¬ i < s.flats.length ∧ ∃ b, b ∈ s.bodies ∧ s.bodies[i - s.flats.length]? = some b ∧ d = f b) := by
  by_cases hi : i < s.flats.length
  · rw [List.getElem?_append_left hi] at h
    exact .inl ⟨hi, flats_flat s d (List.mem_of_getElem? h)⟩
  · rw [List.getElem?_append_right (by omega), List.getElem?_map] at h
    obtain ⟨b, hb, e⟩ := Option.map_eq_some_iff.mp h
    exact .inr ⟨hi, b, List.mem_of_getElem? hb, hb, e.symm⟩
/-! ### sizes, prints -/
mutual
/-- how many prints are counted -/
def pS : Stm → Nat
  | .print _ => 1
  | .ite _ _ a b => max (pB a) (pB b)
  | .same _ _ a b => max (pB a) (pB b)
  | .rep n a => n.toNat * pB a
  | _ => 0
def pB : List Stm → Nat
  | [] => 0
  | s :: r => pS s + pB r
end
def cBs : List (List Stm) → Nat
  | [] => 0
  | b :: r => cB b + cBs r
theorem cS_eq (s : Stm) : cS s = 1 + cBs s.bodies := by
  cases s <;> simp [cS, Stm.bodies, cBs] <;> omega
theorem cBs_sum : ∀ l : List (List Stm), ((l.map fun b => ((cB b : Nat) : Int)).sum) = ((cBs l : Nat) : Int)
  | [] => rfl
  | b :: r => by
    rw [List.map_cons, List.sum_cons, cBs_sum r, cBs]
    omega
theorem pB_app : ∀ (l m : List Stm), pB (l ++ m) = pB l + pB m
  | [], m => by simp [pB]
  | s :: r, m => by rw [List.cons_append, pB, pB, pB_app r m, Nat.add_assoc]
theorem cB_app' : ∀ (l m : List Stm), cB (l ++ m) = cB l + cB m
  | [], m => by simp [cB]
  | s :: r, m => by rw [List.cons_append, cB, cB, cB_app' r m, Nat.add_assoc]
theorem cB_take {l : List Stm} {i : Nat} {s : Stm} (h : l[i]? = some s) : cB (l.take (i + 1)) = cB (l.take i) + cS s := by
  rw [take_more h, cB_app']
  show _ + (cS s + 0) = _
  omega
theorem pB_take {l : List Stm} {i : Nat} {s : Stm} (h : l[i]? = some s) : pB (l.take (i + 1)) = pB (l.take i) + pS s := by
  rw [take_more h, pB_app]
  show _ + (pS s + 0) = _
  omega
end RM

set_option Elab.async false
set_option linter.all false
set_option maxRecDepth 100000
set_option maxHeartbeats 2000000
namespace RM
open PySem PySem.Spec PyProof.Rows L2
mutual
/-- every key that is read is among ks -/
def kS (ks : List Str) : Stm → Bool
  | .read _ k => decide (k ∈ ks) | .ite _ _ a b => kB ks a && kB ks b | .same _ _ a b => kB ks a && kB ks b | .rep _ a => kB ks a | _ => true
def kB (ks : List Str) : List Stm → Bool
  | [] => true
  | s :: r => kS ks s && kB ks r
end
end RM

set_option Elab.async false
set_option linter.all false
set_option maxRecDepth 100000
set_option maxHeartbeats 2000000
/-! what a run computes, in plain Lean -/
namespace RM
open PySem PySem.Spec PyProof.Rows L2
structure RS where
  held : WM
  now : WM
  printed : List Int
  went : List (List Int)
  seen : List (List Int × Str × Int × Int)
  waits : Nat
  stop : Bool
structure RE where
  cs : List WM
  plan : List (List Int)
def chg (cs : List WM) (n : Int) : WM := (cs[n.toNat]?).getD []
def stepW (cs : List WM) (s : RS) (n : Int) : RS := { s with now := wOver s.now (chg cs n), went := s.went ++ [wVals (wOver s.now (chg cs n))] }
def incW (s : RS) : RS := { s with waits := s.waits + 1 }
def itemAt (e : RE) (s : RS) : List Int := (e.plan[s.waits]?).getD []
def waitS (e : RE) (s : RS) : RS := incW ((itemAt e s).foldl (stepW e.cs) s)
def vOf (s : RS) (v : Str) : Int := (wGet s.held v).getD 0
def nOf (s : RS) (k : Str) : Int := (wGet s.now k).getD 0
def holdS (s : RS) (v : Str) (n : Int) : RS := { s with held := wPut s.held v n }
def tellS (s : RS) (n : Int) : RS := { s with printed := s.printed ++ [n] }
def seeS (s : RS) (p : List Int) (k : Str) : RS := { s with seen := s.seen ++ [(p, k, nOf s k, ((s.went.length : Nat) : Int) - 1)] }
def stopS (s : RS) : RS := { s with stop := true }
def rept {α : Type} (f : α → α) : Nat → α → α
  | 0, s => s
  | n + 1, s => f (rept f n s)
mutual
def goS (e : RE) (p : List Int) : Stm → RS → RS
  | .read v k => fun s => seeS (holdS s v (nOf s k)) p k
  | .set v n => fun s => holdS s v n
  | .copy v u => fun s => holdS s v (vOf s u)
  | .print v => fun s => tellS s (vOf s v)
  | .say n => fun s => tellS s n
  | .wait => fun s => waitS e s
  | .ite v n a b => fun s => if vOf s v = n then goB e (p ++ [0]) 0 a s else goB e (p ++ [1]) 0 b s
  | .same v u a b => fun s => if vOf s v = vOf s u then goB e (p ++ [0]) 0 a s else goB e (p ++ [1]) 0 b s
  | .rep n a => fun s => rept (goB e (p ++ [0]) 0 a) n.toNat s
  | .stop => fun s => stopS s
def goB (e : RE) (p : List Int) (i : Nat) : List Stm → RS → RS
  | [] => fun s => s
  | st :: r => fun s => goB e p (i + 1) r (if s.stop = true then s else goS e (p ++ [(i : Int)]) st s)
end
theorem goB_app (e : RE) (p : List Int) : ∀ (l m : List Stm) (i : Nat) (s : RS), goB e p i (l ++ m) s = goB e p (i + l.length) m (goB e p i l s)
  | [], m, i, s => by simp [goB]
  | st :: r, m, i, s => by
    rw [List.cons_append, goB, goB]
    show goB e p (i + 1) (r ++ m) _ = goB e p (i + (r.length + 1)) m _
    rw [goB_app e p r m (i + 1)]
    rw [show i + 1 + r.length = i + (r.length + 1) by omega]
theorem goB_take {e : RE} {p : List Int} {l : List Stm} {i : Nat} {st : Stm} (h : l[i]? = some st) (s : RS) :
    goB e p 0 (l.take (i + 1)) s = if (goB e p 0 (l.take i) s).stop = true then goB e p 0 (l.take i) s else goS e (p ++ [(i : Int)]) st (goB e p 0 (l.take i) s) := by
  have hi := (List.getElem?_eq_some_iff.mp h).1
  rw [take_more h, goB_app, goB, goB, List.length_take, Nat.min_eq_left (by omega), Nat.zero_add]
theorem goB_stop {e : RE} {p : List Int} : ∀ (l : List Stm) (i : Nat) {s : RS}, s.stop = true → goB e p i l s = s
  | [], _, _, _ => by rw [goB]
  | st :: r, i, s, h => by
    rw [goB]
    show goB e p (i + 1) r (if s.stop = true then s else _) = s
    rw [if_pos h]
    exact goB_stop r (i + 1) h
theorem rept_stop {f : RS → RS} (hf : ∀ s : RS, s.stop = true → f s = s) {s : RS} (h : s.stop = true) : ∀ n, rept f n s = s
  | 0 => rfl
  | n + 1 => by rw [rept, rept_stop hf h n, hf s h]
/-! ### how many statements are executed at most -/
mutual
def nS : Stm → Nat
  | .ite _ _ a b => 1 + max (nB a) (nB b)
  | .same _ _ a b => 1 + max (nB a) (nB b)
  | .rep n a => 1 + n.toNat * nB a
  | _ => 1
def nB : List Stm → Nat
  | [] => 0
  | s :: r => nS s + nB r
end
theorem nB_app : ∀ (l m : List Stm), nB (l ++ m) = nB l + nB m
  | [], m => by simp [nB]
  | s :: r, m => by rw [List.cons_append, nB, nB, nB_app r m, Nat.add_assoc]
theorem nB_take {l : List Stm} {i : Nat} {s : Stm} (h : l[i]? = some s) : nB (l.take (i + 1)) = nB (l.take i) + nS s := by
  rw [take_more h, nB_app]
  show _ + (nS s + 0) = _
  omega
theorem nB_le {l : List Stm} (i : Nat) : nB (l.take i) ≤ nB l := by
  have := nB_app (l.take i) (l.drop i)
  rw [List.take_append_drop] at this
  omega
/-- what has been gathered -/
def sz (s : RS) : Nat := s.printed.length + s.seen.length + s.held.length
theorem len_put (m : WM) (k : Str) (n : Int) : (wPut m k n).length ≤ m.length + 1 := by
  unfold wPut
  split
  · rw [List.length_map]; omega
  · rw [List.length_append]; exact Nat.le_refl _
theorem sz_fold (cs : List WM) : ∀ (it : List Int) (s : RS), sz (it.foldl (stepW cs) s) = sz s
  | [], _ => rfl
  | n :: r, s => (sz_fold cs r (stepW cs s n)).trans rfl
theorem fold_waits (cs : List WM) : ∀ (it : List Int) (s : RS), (it.foldl (stepW cs) s).waits = s.waits
  | [], _ => rfl
  | n :: r, s => (fold_waits cs r (stepW cs s n)).trans rfl
theorem fold_went (cs : List WM) : ∀ (it : List Int) (s : RS), (it.foldl (stepW cs) s).went.length = s.went.length + it.length
  | [], _ => rfl
  | n :: r, s => by
    rw [List.foldl_cons, fold_went cs r (stepW cs s n)]
    show (s.went ++ [_]).length + r.length = _
    rw [List.length_append, List.length_cons, List.length_cons, List.length_nil]
    omega
theorem fold_take {cs : List WM} {it : List Int} {i : Nat} {n : Int} (h : it[i]? = some n) (s : RS) : (it.take (i + 1)).foldl (stepW cs) s = stepW cs ((it.take i).foldl (stepW cs) s) n := by
  rw [take_more h, List.foldl_append]
  rfl
mutual
theorem sz_S (e : RE) : ∀ (st : Stm) (p : List Int) (s : RS), sz (goS e p st s) ≤ sz s + 2 * nS st
  | .read v k, p, s => by
    have := len_put s.held v (nOf s k)
    simp only [goS, nS, sz, seeS, holdS, List.length_append, List.length_cons, List.length_nil]
    omega
  | .set v n, p, s => by
    have := len_put s.held v n
    simp only [goS, nS, sz, holdS]
    omega
  | .copy v u, p, s => by
    have := len_put s.held v (vOf s u)
    simp only [goS, nS, sz, holdS]
    omega
  | .print v, p, s => by
    simp only [goS, nS, sz, tellS, List.length_append, List.length_cons, List.length_nil]
    omega
  | .say v, p, s => by
    simp only [goS, nS, sz, tellS, List.length_append, List.length_cons, List.length_nil]
    omega
  | .wait, p, s => by
    rw [goS]
    show sz ((itemAt e s).foldl (stepW e.cs) s) ≤ _
    rw [sz_fold]
    omega
  | .stop, p, s => by
    rw [goS]
    exact Nat.le_add_right _ _
  | .ite v n a b, p, s => by
    have h1 := sz_B e a (p ++ [0]) 0 s
    have h2 := sz_B e b (p ++ [1]) 0 s
    rw [goS, nS]
    show sz (if _ then _ else _) ≤ _
    split <;> omega
  | .same v u a b, p, s => by
    have h1 := sz_B e a (p ++ [0]) 0 s
    have h2 := sz_B e b (p ++ [1]) 0 s
    rw [goS, nS]
    show sz (if _ then _ else _) ≤ _
    split <;> omega
  | .rep n a, p, s => by
    rw [goS, nS]
    have key : ∀ m, sz (rept (goB e (p ++ [0]) 0 a) m s) ≤ sz s + 2 * (m * nB a) := by
      intro m
      induction m with
      | zero => rw [Nat.zero_mul]; exact Nat.le_refl _
      | succ m ih =>
        have := sz_B e a (p ++ [0]) 0 (rept (goB e (p ++ [0]) 0 a) m s)
        have e1 : (m + 1) * nB a = m * nB a + nB a := Nat.succ_mul ..
        rw [rept]
        omega
    have := key n.toNat
    show sz (rept (goB e (p ++ [0]) 0 a) n.toNat s) ≤ _
    omega
theorem sz_B (e : RE) : ∀ (l : List Stm) (p : List Int) (i : Nat) (s : RS), sz (goB e p i l s) ≤ sz s + 2 * nB l
  | [], p, i, s => by rw [goB]; exact Nat.le_add_right _ _
  | st :: r, p, i, s => by
    rw [goB, nB]
    by_cases h : s.stop = true
    · have := sz_B e r p (i + 1) s
      show sz (goB e p (i + 1) r (if s.stop = true then s else _)) ≤ _
      rw [if_pos h]
      omega
    · have h1 := sz_S e st (p ++ [(i : Int)]) s
      have h2 := sz_B e r p (i + 1) (goS e (p ++ [(i : Int)]) st s)
      show sz (goB e p (i + 1) r (if s.stop = true then s else _)) ≤ _
      rw [if_neg h]
      omega
end
theorem sz_rept (e : RE) (a : List Stm) (p : List Int) (i : Nat) (s : RS) : ∀ m, sz (rept (goB e p i a) m s) ≤ sz s + 2 * (m * nB a)
  | 0 => by rw [Nat.zero_mul]; exact Nat.le_refl _
  | m + 1 => by
    have h := sz_rept e a p i s m
    have := sz_B e a p i (rept (goB e p i a) m s)
    have e1 : (m + 1) * nB a = m * nB a + nB a := Nat.succ_mul ..
    rw [rept]
    omega
mutual
theorem nS_le : ∀ (st : Stm), wS st = true → nS st ≤ cS st * 3 ^ dS st
  | .read _ _, _ => by simp [nS, cS, dS]
  | .set _ _, _ => by simp [nS, cS, dS]
  | .copy _ _, _ => by simp [nS, cS, dS]
  | .print _, _ => by simp [nS, cS, dS]
  | .say _, _ => by simp [nS, cS, dS]
  | .wait, _ => by simp [nS, cS, dS]
  | .stop, _ => by simp [nS, cS, dS]
  | .ite v n a b, h => by
    rw [wS, Bool.and_eq_true, Bool.and_eq_true (wB a)] at h
    have ha := nB_le3 a h.2.1
    have hb := nB_le3 b h.2.2
    rw [nS, cS, dS]
    have pa : 3 ^ (dB a - 1) ≤ 3 ^ (max (dB a) (dB b)) := Nat.pow_le_pow_right (by decide) (by omega)
    have pb : 3 ^ (dB b - 1) ≤ 3 ^ (max (dB a) (dB b)) := Nat.pow_le_pow_right (by decide) (by omega)
    have p1 : 1 ≤ 3 ^ (max (dB a) (dB b)) := Nat.one_le_pow _ _ (by decide)
    have ha' := Nat.le_trans ha (Nat.mul_le_mul_left (cB a) pa)
    have hb' := Nat.le_trans hb (Nat.mul_le_mul_left (cB b) pb)
    rw [Nat.add_mul, Nat.add_mul, Nat.one_mul]
    omega
  | .same v n a b, h => by
    rw [wS, Bool.and_eq_true, Bool.and_eq_true (wB a)] at h
    have ha := nB_le3 a h.2.1
    have hb := nB_le3 b h.2.2
    rw [nS, cS, dS]
    have pa : 3 ^ (dB a - 1) ≤ 3 ^ (max (dB a) (dB b)) := Nat.pow_le_pow_right (by decide) (by omega)
    have pb : 3 ^ (dB b - 1) ≤ 3 ^ (max (dB a) (dB b)) := Nat.pow_le_pow_right (by decide) (by omega)
    have p1 : 1 ≤ 3 ^ (max (dB a) (dB b)) := Nat.one_le_pow _ _ (by decide)
    have ha' := Nat.le_trans ha (Nat.mul_le_mul_left (cB a) pa)
    have hb' := Nat.le_trans hb (Nat.mul_le_mul_left (cB b) pb)
    rw [Nat.add_mul, Nat.add_mul, Nat.one_mul]
    omega
  | .rep n a, h => by
    rw [wS, Bool.and_eq_true, Bool.and_eq_true] at h
    have ha := nB_le3 a h.2
    have hn := of_decide_eq_true h.1.2
    rw [nS, cS, dS]
    have d1 := dB_one a
    obtain ⟨d, hd⟩ : ∃ d, dB a = d + 1 := ⟨dB a - 1, by omega⟩
    rw [hd, Nat.add_sub_cancel] at ha
    rw [hd]
    have p1 : 1 ≤ 3 ^ (d + 1) := Nat.one_le_pow _ _ (by decide)
    have e1 : 3 ^ (d + 1) = 3 ^ d * 3 := Nat.pow_succ ..
    have m1 : n.toNat * nB a ≤ 3 * nB a := Nat.mul_le_mul_right _ (by omega)
    have m2 : 3 * nB a ≤ 3 * (cB a * 3 ^ d) := Nat.mul_le_mul_left _ ha
    have e2 : cB a * 3 ^ (d + 1) = 3 * (cB a * 3 ^ d) := by rw [e1, ← Nat.mul_assoc, Nat.mul_comm _ 3]
    rw [Nat.add_mul, Nat.one_mul, e2]
    omega
theorem nB_le3 : ∀ (l : List Stm), wB l = true → nB l ≤ cB l * 3 ^ (dB l - 1)
  | [], _ => by simp [nB]
  | s :: r, h => by
    rw [wB, Bool.and_eq_true] at h
    have hs := nS_le s h.1
    have hr := nB_le3 r h.2
    have d1 := dB_one r
    rw [nB, cB, dB]
    have ps : 3 ^ dS s ≤ 3 ^ (max (dS s + 1) (dB r) - 1) := Nat.pow_le_pow_right (by decide) (by omega)
    have pr : 3 ^ (dB r - 1) ≤ 3 ^ (max (dS s + 1) (dB r) - 1) := Nat.pow_le_pow_right (by decide) (by omega)
    have hs' := Nat.le_trans hs (Nat.mul_le_mul_left (cS s) ps)
    have hr' := Nat.le_trans hr (Nat.mul_le_mul_left (cB r) pr)
    rw [Nat.add_mul]
    omega
end
theorem nB_most {l : List Stm} (w : wB l = true) (hd : dB l ≤ 4) (hc : cB l ≤ 60) : nB l ≤ 1620 := by
  have h := nB_le3 l w
  have p : 3 ^ (dB l - 1) ≤ 3 ^ 3 := Nat.pow_le_pow_right (by decide) (by omega)
  have := Nat.mul_le_mul hc p
  omega
/-! ### what a wait does -/
/-- all is as it should be: the keys, and room for the moments to come -/
structure ROk (e : RE) (ks : List Str) (s : RS) : Prop where
  now : okM s.now
  keys : wKeys s.now = ks
  one : 1 ≤ s.went.length
  room : s.went.length + (e.plan.drop s.waits).flatten.length ≤ 1000
/-- the surroundings' keys, the changes, the schedule -/
structure EOk (e : RE) (ks : List Str) : Prop where
  cs : ∀ g ∈ e.cs, okM g ∧ ∀ k ∈ wKeys g, k ∈ ks
  plan : ∀ it ∈ e.plan, ∀ n ∈ it, 0 ≤ n ∧ n < e.cs.length
  srt : sortedS ks = true
  l1 : 1 ≤ ks.length
  l4 : ks.length ≤ 4
theorem ROk.of {e : RE} {ks : List Str} {s t : RS} (h : ROk e ks s) (a : t.now = s.now := by rfl) (b : t.went = s.went := by rfl) (c : t.waits = s.waits := by rfl) : ROk e ks t :=
  ⟨by rw [a]; exact h.now, by rw [a]; exact h.keys, by rw [b]; exact h.one, by rw [b, c]; exact h.room⟩
theorem chg_at {e : RE} {ks : List Str} (E : EOk e ks) {it : List Int} (hi : it ∈ e.plan) {n : Int} (hn : n ∈ it) : ∃ g, e.cs[n.toNat]? = some g ∧ chg e.cs n = g ∧ okM g ∧ ∀ k ∈ wKeys g, k ∈ ks := by
  have h := E.plan it hi n hn
  have hl : n.toNat < e.cs.length := by omega
  refine ⟨e.cs[n.toNat], List.getElem?_eq_getElem hl, by unfold chg; rw [List.getElem?_eq_getElem hl]; rfl, E.cs _ (List.getElem_mem hl)⟩
theorem drop_item {e : RE} {s : RS} {it : List Int} (h : e.plan[s.waits]? = some it) : (e.plan.drop s.waits).flatten = it ++ (e.plan.drop (s.waits + 1)).flatten := by
  have hl := (List.getElem?_eq_some_iff.mp h)
  rw [List.drop_eq_getElem_cons hl.1, hl.2, List.flatten_cons]
/-- the keys stay, whatever changes are made -/
theorem fold_ok {e : RE} {ks : List Str} (E : EOk e ks) {it : List Int} (hi : it ∈ e.plan) {s : RS} (h : okM s.now) (k : wKeys s.now = ks) :
    ∀ {jt : List Int}, (∀ n ∈ jt, n ∈ it) → okM (jt.foldl (stepW e.cs) s).now ∧ wKeys (jt.foldl (stepW e.cs) s).now = ks := by
  intro jt
  induction jt generalizing s with
  | nil => intro _; exact ⟨h, k⟩
  | cons n r ih =>
    intro hj
    obtain ⟨g, _, eg, og, sub⟩ := chg_at E hi (hj n List.mem_cons_self)
    refine ih (s := stepW e.cs s n) ?_ ?_ fun x hx => hj x (List.mem_cons_of_mem _ hx)
    · show okM (wOver s.now (chg e.cs n))
      rw [eg]
      exact okM_over h og.1
    · show wKeys (wOver s.now (chg e.cs n)) = ks
      rw [eg, wKeys_over (by rw [k]; exact sub), k]
theorem ROk.wait {e : RE} {ks : List Str} {s : RS} (E : EOk e ks) (h : ROk e ks s) : ROk e ks (waitS e s) := by
  unfold waitS itemAt
  cases hp : e.plan[s.waits]? with
  | none =>
    refine ⟨h.now, h.keys, h.one, ?_⟩
    show s.went.length + (e.plan.drop (s.waits + 1)).flatten.length ≤ 1000
    have := h.room
    rw [List.getElem?_eq_none_iff] at hp
    rw [List.drop_eq_nil_of_le (by omega)] at this ⊢
    exact this
  | some it =>
    have hi := List.mem_of_getElem? hp
    obtain ⟨o1, o2⟩ := fold_ok E hi h.now h.keys (jt := it) fun _ h => h
    have lw := fold_went e.cs it s
    refine ⟨o1, o2, ?_, ?_⟩
    · show 1 ≤ (it.foldl (stepW e.cs) s).went.length
      have := h.one
      omega
    · show (it.foldl (stepW e.cs) s).went.length + (e.plan.drop ((it.foldl (stepW e.cs) s).waits + 1)).flatten.length ≤ 1000
      have := h.room
      rw [drop_item hp, List.length_append] at this
      rw [fold_waits, lw]
      omega
mutual
theorem kS_of (ks : List Str) : ∀ (st : Stm) (p : List Int), (∀ q ∈ aS p st, ∀ v k, q.2 = .read v k → k ∈ ks) → kS ks st = true
  | .read v k, p, h => by
    rw [kS]
    exact decide_eq_true (h (p, .read v k) (by simp [aS]) v k rfl)
  | .set _ _, _, _ => by simp [kS]
  | .copy _ _, _, _ => by simp [kS]
  | .print _, _, _ => by simp [kS]
  | .say _, _, _ => by simp [kS]
  | .wait, _, _ => by simp [kS]
  | .stop, _, _ => by simp [kS]
  | .ite v n a b, p, h => by
    rw [kS, kB_of ks a (p ++ [0]) 0 fun q hq => h q (by simp [aS, hq]), kB_of ks b (p ++ [1]) 0 fun q hq => h q (by simp [aS, hq])]
    rfl
  | .same v n a b, p, h => by
    rw [kS, kB_of ks a (p ++ [0]) 0 fun q hq => h q (by simp [aS, hq]), kB_of ks b (p ++ [1]) 0 fun q hq => h q (by simp [aS, hq])]
    rfl
  | .rep n a, p, h => by
    rw [kS, kB_of ks a (p ++ [0]) 0 fun q hq => h q (by simp [aS, hq])]
theorem kB_of (ks : List Str) : ∀ (l : List Stm) (p : List Int) (i : Nat), (∀ q ∈ aB p i l, ∀ v k, q.2 = .read v k → k ∈ ks) → kB ks l = true
  | [], _, _, _ => by simp [kB]
  | s :: r, p, i, h => by
    rw [kB, kS_of ks s (p ++ [(i : Int)]) fun q hq => h q (by simp [aB, hq]), kB_of ks r p (i + 1) fun q hq => h q (by simp [aB, hq])]
    rfl
end
end RM

set_option Elab.async false
set_option linter.all false
set_option maxRecDepth 100000
set_option maxHeartbeats 2000000
/-! a runner and its outcome in the heap -/
namespace RM
open PySem PySem.Spec PyProof.Rows L2
def tg : HO → Nat
  | .ins _ _ fs => fs.length
  | .dK _ => 20
  | .lst _ => 21
  | _ => 22
theorem ne_tg {H : Hp} {a b : Addr} {x y : HO} (h1 : H a = some x) (h2 : H b = some y) (t : tg x ≠ tg y) : a ≠ b := fun z => by
  rw [z, h2] at h1
  injection h1 with e
  exact t (by rw [e])
theorem upd_tg {H : Hp} {a b : Addr} {x y o : HO} (h1 : H b = some x) (h2 : H a = some y) (t : tg x ≠ tg y) : upd H a o b = some x := by
  rw [upd_ne (ne_tg h1 h2 t)]
  exact h1
def seenD (q : List Int × Str × Int × Int) : PyData := .tuple [pathD q.1, .str q.2.1, .int q.2.2.1, .int q.2.2.2]
theorem noL_seenD (q : List Int × Str × Int × Int) : noL (seenD q) = true := by
  show (noL (pathD q.1) && (noL (.str q.2.1) && (noL (.int q.2.2.1) && (noL (.int q.2.2.2) && true)))) = true
  rw [noL_path]
  rfl
theorem noLs_seen (l : List (List Int × Str × Int × Int)) : noLs (l.map seenD) = true := by
  induction l with
  | nil => rfl
  | cons q r ih => rw [List.map_cons, noLs, ih, noL_seenD]; rfl
structure RA where
  r : Addr
  pl : Addr
  hd : Addr
  oc : Addr
  wl : Addr
  ll : Addr
  ch : Addr
  pn : Addr
structure RW where
  dr : Addr
  dp : Addr
  dq : Addr
  p : Addr
  pt : Addr
  ws : List V
  ls : List V
structure RunW (K : PySem.W.Frag) (H0 H : Hp) (A : RA) (W : RW) (s : RS) : Prop where
  sm : Same H0 H
  fr : H0 A.r = none
  fp : H0 A.pl = none
  fh : H0 A.hd = none
  fo : H0 A.oc = none
  fw : H0 A.wl = none
  fl : H0 A.ll = none
  r : H A.r = some (.ins (He.ga K "Runner") W.dr [("place", .ref A.pl), ("choices", .ref A.ch), ("plan", .ref A.pn), ("held", .ref A.hd), ("outcome", .ref A.oc), ("stopped", .bl s.stop)])
  pl : H A.pl = some (.ins (He.ga K "Surroundings") W.dp [("now", .ref W.p)])
  now : H W.p = some (.dK (mK s.now))
  ph : W.p ≠ A.hd
  held : H A.hd = some (.dK (mK s.held))
  oc : H A.oc = some (.ins (He.ga K "Outcome") W.dq [("printed", .ref W.pt), ("went", .ref A.wl), ("looked", .ref A.ll), ("waits", .int (s.waits : Nat)), ("ended", .non)])
  pt : SqT K H W.pt (s.printed.map V.int)
  wl : H A.wl = some (.lst W.ws)
  dw : DpAll K H W.ws (s.went.map stD)
  ll : H A.ll = some (.lst W.ls)
  dl : DpAll K H W.ls (s.seen.map seenD)
  wll : A.wl ≠ A.ll
def RunAt (K : PySem.W.Frag) (H0 H : Hp) (A : RA) (s : RS) : Prop := ∃ W, RunW K H0 H A W s
structure EnvAt (K : PySem.W.Frag) (H0 : Hp) (A : RA) (e : RE) (ks : List Str) : Prop where
  ch : ∃ cas : List Addr, SqA K H0 A.ch (cas.map V.ref) ∧ Paired (fun c g => ChgAt K H0 c g) cas e.cs
  pn : ∃ its : List Addr, SqA K H0 A.pn (its.map V.ref) ∧ Paired (fun a ns => SqA K H0 a (ns.map V.int)) its e.plan
  ok : EOk e ks
section
variable {K : PySem.W.Frag} {H0 H H' : Hp} {A : RA} {W : RW} {s : RS} {e : RE} {ks : List Str}
theorem RunW.keep (e : Same H H') (h : RunW K H0 H A W s) : RunW K H0 H' A W s where
  sm := h.sm.trans e
  fr := h.fr
  fp := h.fp
  fh := h.fh
  fo := h.fo
  fw := h.fw
  fl := h.fl
  r := e _ _ h.r
  pl := e _ _ h.pl
  now := e _ _ h.now
  ph := h.ph
  held := e _ _ h.held
  oc := e _ _ h.oc
  pt := smT e h.pt
  wl := e _ _ h.wl
  dw := DpAll.keep e h.dw
  ll := e _ _ h.ll
  dl := DpAll.keep e h.dl
  wll := h.wll
theorem RunW.sur (h : RunW K H0 H A W s) (k : ROk e ks s) (E : EOk e ks) : SurAt K H A.pl s.now := by
  have l : s.now.length = ks.length := by
    have := congrArg List.length k.keys
    unfold wKeys at this
    rwa [List.length_map] at this
  exact ⟨⟨_, _, h.pl, h.now, k.now, by have := E.srt; rw [← k.keys] at this; exact this⟩, by rw [l]; exact E.l1, by rw [l]; exact E.l4⟩
theorem RunW.upHeld (h : RunW K H0 H A W s) (m : WM) : RunW K H0 (upd H A.hd (.dK (mK m))) A W { s with held := m } := by
  have ts : TS K H (upd H A.hd (.dK (mK m))) := ts_upd _ h.held trivial
  exact { h with
    sm := smOut h.sm h.fh _
    r := upd_tg h.r h.held (by simp [tg])
    pl := upd_tg h.pl h.held (by simp [tg])
    now := by rw [upd_ne h.ph]; exact h.now
    held := upd_same
    oc := upd_tg h.oc h.held (by simp [tg])
    pt := ts _ _ h.pt
    wl := upd_tg h.wl h.held (by simp [tg])
    dw := dps_ts ts h.dw (noLs_sts _)
    ll := upd_tg h.ll h.held (by simp [tg])
    dl := dps_ts ts h.dl (noLs_seen _) }
theorem RunW.upStop (h : RunW K H0 H A W s) (b : Bool) : RunW K H0 (upd H A.r (.ins (He.ga K "Runner") W.dr [("place", .ref A.pl), ("choices", .ref A.ch), ("plan", .ref A.pn), ("held", .ref A.hd), ("outcome", .ref A.oc), ("stopped", .bl b)])) A W { s with stop := b } := by
  have ts := ts_upd (K := K) (.ins (He.ga K "Runner") W.dr [("place", .ref A.pl), ("choices", .ref A.ch), ("plan", .ref A.pn), ("held", .ref A.hd), ("outcome", .ref A.oc), ("stopped", .bl b)]) h.r trivial
  exact { h with
    sm := smOut h.sm h.fr _
    r := upd_same
    pl := upd_tg h.pl h.r (by simp [tg])
    now := upd_tg h.now h.r (by simp [tg])
    held := upd_tg h.held h.r (by simp [tg])
    oc := upd_tg h.oc h.r (by simp [tg])
    pt := ts _ _ h.pt
    wl := upd_tg h.wl h.r (by simp [tg])
    dw := dps_ts ts h.dw (noLs_sts _)
    ll := upd_tg h.ll h.r (by simp [tg])
    dl := dps_ts ts h.dl (noLs_seen _) }
/-- printed or waits anew -/
theorem RunW.upOut (h : RunW K H0 H A W s) (pt : Addr) (ps : List Int) (n : Nat) (hp : SqT K H pt (ps.map V.int)) :
    RunW K H0 (upd H A.oc (.ins (He.ga K "Outcome") W.dq [("printed", .ref pt), ("went", .ref A.wl), ("looked", .ref A.ll), ("waits", .int (n : Nat)), ("ended", .non)])) A { W with pt := pt } { s with printed := ps, waits := n } := by
  have ts := ts_upd (K := K) (.ins (He.ga K "Outcome") W.dq [("printed", .ref pt), ("went", .ref A.wl), ("looked", .ref A.ll), ("waits", .int (n : Nat)), ("ended", .non)]) h.oc trivial
  exact { h with
    sm := smOut h.sm h.fo _
    r := upd_tg h.r h.oc (by simp [tg])
    pl := upd_tg h.pl h.oc (by simp [tg])
    now := upd_tg h.now h.oc (by simp [tg])
    held := upd_tg h.held h.oc (by simp [tg])
    oc := upd_same
    pt := ts _ _ hp
    wl := upd_tg h.wl h.oc (by simp [tg])
    dw := dps_ts ts h.dw (noLs_sts _)
    ll := upd_tg h.ll h.oc (by simp [tg])
    dl := dps_ts ts h.dl (noLs_seen _) }
theorem RunW.upNow (h : RunW K H0 H A W s) (p : Addr) (m : WM) (hp : H p = some (.dK (mK m))) (n : p ≠ A.hd) : RunW K H0 (upd H A.pl (.ins (He.ga K "Surroundings") W.dp [("now", .ref p)])) A { W with p := p } { s with now := m } := by
  have ts := ts_upd (K := K) (.ins (He.ga K "Surroundings") W.dp [("now", .ref p)]) h.pl trivial
  exact { h with
    sm := smOut h.sm h.fp _
    r := upd_tg h.r h.pl (by simp [tg])
    pl := upd_same
    now := upd_tg hp h.pl (by simp [tg])
    ph := n
    held := upd_tg h.held h.pl (by simp [tg])
    oc := upd_tg h.oc h.pl (by simp [tg])
    pt := ts _ _ h.pt
    wl := upd_tg h.wl h.pl (by simp [tg])
    dw := dps_ts ts h.dw (noLs_sts _)
    ll := upd_tg h.ll h.pl (by simp [tg])
    dl := dps_ts ts h.dl (noLs_seen _) }
theorem RunW.upWent (h : RunW K H0 H A W s) (v : V) (st : List Int) (hv : Dp K H v (stD st)) : RunW K H0 (upd H A.wl (.lst (W.ws ++ [v]))) A { W with ws := W.ws ++ [v] } { s with went := s.went ++ [st] } := by
  have ts := ts_upd (K := K) (.lst (W.ws ++ [v])) h.wl trivial
  exact { h with
    sm := smOut h.sm h.fw _
    r := upd_tg h.r h.wl (by simp [tg])
    pl := upd_tg h.pl h.wl (by simp [tg])
    now := upd_tg h.now h.wl (by simp [tg])
    held := upd_tg h.held h.wl (by simp [tg])
    oc := upd_tg h.oc h.wl (by simp [tg])
    pt := ts _ _ h.pt
    wl := upd_same
    dw := by
      show DpAll K _ (W.ws ++ [v]) ((s.went ++ [st]).map stD)
      rw [List.map_append]
      exact DpAll.snoc (dps_ts ts h.dw (noLs_sts _)) (dp_ts ts hv (noL_st _))
    ll := by rw [upd_ne (Ne.symm h.wll)]; exact h.ll
    dl := dps_ts ts h.dl (noLs_seen _) }
theorem RunW.upSeen (h : RunW K H0 H A W s) (v : V) (q : List Int × Str × Int × Int) (hv : Dp K H v (seenD q)) : RunW K H0 (upd H A.ll (.lst (W.ls ++ [v]))) A { W with ls := W.ls ++ [v] } { s with seen := s.seen ++ [q] } := by
  have ts := ts_upd (K := K) (.lst (W.ls ++ [v])) h.ll trivial
  exact { h with
    sm := smOut h.sm h.fl _
    r := upd_tg h.r h.ll (by simp [tg])
    pl := upd_tg h.pl h.ll (by simp [tg])
    now := upd_tg h.now h.ll (by simp [tg])
    held := upd_tg h.held h.ll (by simp [tg])
    oc := upd_tg h.oc h.ll (by simp [tg])
    pt := ts _ _ h.pt
    wl := by rw [upd_ne h.wll]; exact h.wl
    dw := dps_ts ts h.dw (noLs_sts _)
    ll := upd_same
    dl := by
      show DpAll K _ (W.ls ++ [v]) ((s.seen ++ [q]).map seenD)
      rw [List.map_append]
      exact DpAll.snoc (dps_ts ts h.dl (noLs_seen _)) (dp_ts ts hv (noL_seenD _)) }
end
end RM

set_option Elab.async false
set_option linter.all false
set_option maxRecDepth 100000
set_option maxHeartbeats 2000000
namespace RM
open PySem PySem.Spec PyProof.Rows L2
section
variable {P : Program} {w : World} {K : PySem.W.Frag} {mg : Str → Option Value} {base : Heap}
/-! ### is_item -/
inductive ItemOk (K : PySem.W.Frag) (H : Hp) : V → Nat → Prop where
  | k {z : Str} (h : isWord z = true) : ItemOk K H (.str z) 107
  | v {n : Int} (h : isValue n = true) : ItemOk K H (.int n) 118
  | t {n : Int} (h0 : 0 ≤ n) (h3 : n ≤ 3) : ItemOk K H (.int n) 116
  | b {a : Addr} {xs : List V} (h : SqL K H a xs ∨ SqT K H a xs) : ItemOk K H (.ref a) 98
def spIsItem (K : PySem.W.Frag) : Sp := fun vs H Q _ => match vs with
  | [x, f] => ∃ c, f = .str ⟨#[c]⟩ ∧ ItemOk K H x c ∧ ∀ H', Same H H' → Q (.bl true) H'
  | _ => False
theorem sc_is_item : FnScope ["value", "form"] ["value", "form"] (defScope s_is_item) := ⟨rfl, rfl, rfl, by decide +kernel, rfl, by decide +kernel, by decide +kernel⟩
theorem c_is_item (T : Top w K mg) : Cal P w K mg base CX0 2 "is_item" (spIsItem K) := by
  refine cal_0 (f_is_item T) (g_is_item T) sc_is_item (fun _ _ _ _ _ _ us hl => match us, hl with | [_, _], _ => rfl) (fun vs H Q E h => match vs, h with | [_, _], _ => rfl) (fun cdv A outer s H vs Q E hr h => ?_)
  match vs, h with
  | [x, f], h =>
  obtain ⟨c, rfl, ok, q⟩ := h
  refine ⟨_, (pss_cons (ps_if (pt_cmpR op_eq (pv 1) pe_str (nomark _))
      (pss_one (ps_ret (pc (c_is_word T) hr (pa_cons (pv 0) pa_nil))))
      pss_nil)
    (pss_cons (ps_if (pt_cmpR op_eq (pv 1) pe_str (nomark _))
      (pss_one (ps_ret (pc (c_is_value T) hr (pa_cons (pv 0) pa_nil))))
      pss_nil)
    (pss_cons (ps_if (pt_cmpR op_eq (pv 1) pe_str (nomark _))
      (pss_one (ps_ret (pe_and (pc (c_is_value T) hr (pa_cons (pv 0) pa_nil)) (pe_one (pe_chain op_le op_le pe_int (pv 0) pe_int)))))
      pss_nil)
    (pss_one (ps_ret (pcb (z_isinstance T) call_isiT boot_isinstance (pa_cons (pv 0) (pa_cons (pe_tup (pa_cons (pty (z_list T) boot_list) (pa_cons (pty (z_tuple T) boot_tuple) pa_nil))) pa_nil)))))))), ?_⟩
  have q0 := q H (Same.refl H)
  cases ok with
  | k hz =>
    refine ⟨_, rfl, rfl, _, rfl, ifT (by decide +kernel) ?_⟩
    exact ⟨_, rfl, _, rfl, word_size hz, by rw [hz]; exact q0⟩
  | v hv =>
    refine ⟨_, rfl, rfl, _, rfl, ifF (by decide +kernel) ?_⟩
    refine ⟨_, rfl, rfl, _, rfl, ifT (by decide +kernel) ?_⟩
    exact ⟨_, rfl, _, rfl, by rw [hv]; exact q0⟩
  | @t n h0 h3 =>
    refine ⟨_, rfl, rfl, _, rfl, ifF (by decide +kernel) ?_⟩
    refine ⟨_, rfl, rfl, _, rfl, ifF (by decide +kernel) ?_⟩
    refine ⟨_, rfl, rfl, _, rfl, ifT (by decide +kernel) ?_⟩
    have hv : isValue n = true := isValue_rep (by rw [decide_eq_true h0, decide_eq_true h3]; rfl)
    refine ⟨_, rfl, _, rfl, _, rfl, ifT hv ?_⟩
    refine ⟨_, rfl, _, _, rfl, rfl, _, rfl, ifT (decide_eq_true h0) ⟨_, _, rfl, rfl, ?_⟩⟩
    exact qT (decide_eq_true h3) q0
  | b ha =>
    refine ⟨_, rfl, rfl, _, rfl, ifF (by decide +kernel) ?_⟩
    refine ⟨_, rfl, rfl, _, rfl, ifF (by decide +kernel) ?_⟩
    refine ⟨_, rfl, rfl, _, rfl, ifF (by decide +kernel) ?_⟩
    refine ⟨_, rfl, (by show 2 ≤ sizeLine; decide), fun p hp => ?_⟩
    have s1 : Same H (upd H p (.tup [.ty "list", .ty "tuple"])) := smNew1 hp _
    rcases ha with ha | ha
    · exact ⟨_, p, _, _, [.type "list", .type "tuple"], true, rfl, upd_same, .cons (.ty _) (.cons (.ty _) .nil), tyL (s1.seq ha), kitAny_cons (b := true) (kit_ty (by decide +kernel)) (fun z => by cases z) (fun _ => rfl), q _ s1⟩
    · exact ⟨_, p, _, _, [.type "list", .type "tuple"], true, rfl, upd_same, .cons (.ty _) (.cons (.ty _) .nil), tyT (smT s1 ha), kitAny_cons (b := false) (kit_ty (by decide +kernel)) (fun _ => kitAny_cons (b := true) (kit_ty (by decide +kernel)) (fun z => by cases z) (fun _ => rfl)) (fun z => by cases z), q _ s1⟩
/-! ### the table of forms -/
theorem forms (T : Top w K mg) (s : Stm) : ∃ es m, KDict K w (He.ga K "FORMS") es m ∧ ∃ u, PySem.W.nsIn K (He.ga K "FORMS") s.word = some (some u) ∧ RelV (.str s.form) u := by
  obtain ⟨es, m, D⟩ := t_FORMS T
  refine ⟨es, m, D, ?_⟩
  have h := v_FORMS T
  cases s <;> first
    | exact He.valsB_ok h (q := ("read", .str "kk")) (by simp [tab_FORMS])
    | exact He.valsB_ok h (q := ("set", .str "kv")) (by simp [tab_FORMS])
    | exact He.valsB_ok h (q := ("copy", .str "kk")) (by simp [tab_FORMS])
    | exact He.valsB_ok h (q := ("print", .str "k")) (by simp [tab_FORMS])
    | exact He.valsB_ok h (q := ("say", .str "v")) (by simp [tab_FORMS])
    | exact He.valsB_ok h (q := ("wait", .str "")) (by simp [tab_FORMS])
    | exact He.valsB_ok h (q := ("if", .str "kvbb")) (by simp [tab_FORMS])
    | exact He.valsB_ok h (q := ("same", .str "kkbb")) (by simp [tab_FORMS])
    | exact He.valsB_ok h (q := ("repeat", .str "tb")) (by simp [tab_FORMS])
    | exact He.valsB_ok h (q := ("stop", .str "")) (by simp [tab_FORMS])
theorem kd_form (T : Top w K mg) (s : Stm) : KDct K w (He.ga K "FORMS") s.word (.str s.form) := by
  obtain ⟨es, m, D, u, h, r⟩ := forms T s
  exact ⟨es, m, u, D.1, D.2, h, r⟩
/-! ### a statement as a tuple -/
/-- x stands for a statement: its word, its items -/
def ShapeS (K : PySem.W.Frag) (H : Hp) (x : V) (s : Stm) (fl : Bool) : Prop :=
  ∃ a xs, x = .ref a ∧ SqT K H a (.str s.word :: xs) ∧ DpAll K H xs (s.flats ++ s.bodies.map fun b => seqD fl (encB fl b))
theorem shape_of {H : Hp} {x : V} {s : Stm} {fl : Bool} (h : Dp K H x (encS fl s)) : ShapeS K H x s fl := by
  rw [encS_eq] at h
  obtain ⟨a, xs, rfl, hq, hd⟩ := Dp.tup_inv h
  obtain ⟨v, r, rfl, h1, h2⟩ := DpAll.cons_inv hd
  rw [Dp.str_inv h1] at hq
  exact ⟨a, r, rfl, hq, h2⟩
theorem form_len (s : Stm) : s.form.cps.size = s.flats.length + s.bodies.length := by
  cases s <;> (simp only [Stm.form, Stm.flats, Stm.bodies, List.length_cons, List.length_nil]; decide +kernel)
theorem word_sz (s : Stm) : s.word.length ≤ sizeLine ∧ s.form.length ≤ sizeLine := by
  have h : s.word.length ≤ 1000 ∧ s.form.length ≤ 1000 := by cases s <;> (simp only [Stm.form, Stm.word]; decide +kernel)
  exact ⟨Nat.le_of_lt (small1000 h.1), Nat.le_of_lt (small1000 h.2)⟩
theorem form_five (s : Stm) : s.form.cps.size ≤ 4 := by cases s <;> (simp only [Stm.form]; decide +kernel)
theorem ShapeS.items {H : Hp} {xs : List V} {s : Stm} {fl : Bool} (h : DpAll K H xs (s.flats ++ s.bodies.map fun b => seqD fl (encB fl b))) : xs.length = s.form.cps.size := by
  rw [form_len, DpAll.len h, List.length_append, List.length_map]
/-- each item is what its sign says -/
theorem item_ok {H : Hp} {xs : List V} {s : Stm} {fl : Bool} (hw : wl s = true) (h : DpAll K H xs (s.flats ++ s.bodies.map fun b => seqD fl (encB fl b))) {i c : Nat} {x : V} (hx : xs[i]? = some x) (hc : s.form.cps[i]? = some c) : ItemOk K H x c := by
  obtain ⟨d, hd, dp⟩ := DpAll.getV h hx
  have seqOk : ∀ {ds : List PyData}, Dp K H x (seqD fl ds) → ItemOk K H x 98 := fun {ds} q => by
    obtain ⟨a, ys, rfl, hs, _⟩ := seqD_inv q
    exact .b hs
  cases s with
  | read v k =>
    simp only [wl, Bool.and_eq_true] at hw
    match i, hd, hc with
    | 0, hd, hc => cases hd; cases hc; rw [Dp.str_inv dp]; exact .k hw.1
    | 1, hd, hc => cases hd; cases hc; rw [Dp.str_inv dp]; exact .k hw.2
    | n + 2, hd, hc => simp [Stm.flats, Stm.bodies] at hd
  | set v n =>
    simp only [wl, Bool.and_eq_true] at hw
    match i, hd, hc with
    | 0, hd, hc => cases hd; cases hc; rw [Dp.str_inv dp]; exact .k hw.1
    | 1, hd, hc => cases hd; cases hc; rw [Dp.int_inv dp]; exact .v hw.2
    | n + 2, hd, hc => simp [Stm.flats, Stm.bodies] at hd
  | copy v u =>
    simp only [wl, Bool.and_eq_true] at hw
    match i, hd, hc with
    | 0, hd, hc => cases hd; cases hc; rw [Dp.str_inv dp]; exact .k hw.1
    | 1, hd, hc => cases hd; cases hc; rw [Dp.str_inv dp]; exact .k hw.2
    | n + 2, hd, hc => simp [Stm.flats, Stm.bodies] at hd
  | print v =>
    match i, hd, hc with
    | 0, hd, hc => cases hd; cases hc; rw [Dp.str_inv dp]; exact .k hw
    | n + 1, hd, hc => simp [Stm.flats, Stm.bodies] at hd
  | say n =>
    match i, hd, hc with
    | 0, hd, hc => cases hd; cases hc; rw [Dp.int_inv dp]; exact .v hw
    | n + 1, hd, hc => simp [Stm.flats, Stm.bodies] at hd
  | wait => simp [Stm.flats, Stm.bodies] at hd
  | stop => simp [Stm.flats, Stm.bodies] at hd
  | ite v n a b =>
    simp only [wl, Bool.and_eq_true] at hw
    match i, hd, hc with
    | 0, hd, hc => cases hd; cases hc; rw [Dp.str_inv dp]; exact .k hw.1
    | 1, hd, hc => cases hd; cases hc; rw [Dp.int_inv dp]; exact .v hw.2
    | 2, hd, hc => cases hc; exact seqOk (ds := encB fl a) (by cases hd; exact dp)
    | 3, hd, hc => cases hc; exact seqOk (ds := encB fl b) (by cases hd; exact dp)
    | n + 4, hd, hc => simp [Stm.flats, Stm.bodies] at hd
  | same v u a b =>
    simp only [wl, Bool.and_eq_true] at hw
    match i, hd, hc with
    | 0, hd, hc => cases hd; cases hc; rw [Dp.str_inv dp]; exact .k hw.1
    | 1, hd, hc => cases hd; cases hc; rw [Dp.str_inv dp]; exact .k hw.2
    | 2, hd, hc => cases hc; exact seqOk (ds := encB fl a) (by cases hd; exact dp)
    | 3, hd, hc => cases hc; exact seqOk (ds := encB fl b) (by cases hd; exact dp)
    | n + 4, hd, hc => simp [Stm.flats, Stm.bodies] at hd
  | rep n a =>
    simp only [wl, Bool.and_eq_true] at hw
    match i, hd, hc with
    | 0, hd, hc => cases hd; cases hc; rw [Dp.int_inv dp]; exact .t (of_decide_eq_true hw.1) (of_decide_eq_true hw.2)
    | 1, hd, hc => cases hc; exact seqOk (ds := encB fl a) (by cases hd; exact dp)
    | n + 2, hd, hc => simp [Stm.flats, Stm.bodies] at hd
/-! ### is_statement -/
def spIsStm (K : PySem.W.Frag) : Sp := fun vs H Q _ => match vs with
  | [x] => ∃ (fl : Bool) (s : Stm), Dp K H x (encS fl s) ∧ wl s = true ∧ ∀ H', Same H H' → Q (.bl true) H'
  | _ => False
theorem sc_is_statement : FnScope ["value", "form", "item", "sign"] ["value"] (defScope s_is_statement) := ⟨rfl, rfl, rfl, by decide +kernel, rfl, by decide +kernel, by decide +kernel⟩
theorem c_is_statement (T : Top w K mg) : Cal P w K mg base CX0 3 "is_statement" (spIsStm K) := by
  refine cal_0 (f_is_statement T) (g_is_statement T) sc_is_statement (fun _ _ _ _ _ _ us hl => match us, hl with | [_], _ => rfl) (fun vs H Q E h => match vs, h with | [_], _ => rfl) (fun cdv A outer s H vs Q E hr h => ?_)
  match vs, h with
  | [x], h =>
  obtain ⟨fl, s, hd, hw, q⟩ := h
  obtain ⟨es, m, D, u, hu, ru⟩ := forms T s
  obtain ⟨a, xs, rfl, ha, hx⟩ := shape_of hd
  refine ⟨_, (pss_cons (ps_if (PW.pt (pw_or (pt_not (pt_val (pcb (z_isinstance T) call_isi boot_isinstance (pa_cons (pv 0) (pa_cons (pty (z_tuple T) boot_tuple) pa_nil))))) (pw_or (pt_not (pt_truth (pv 0) (by intro _; rfl))) (pw_or (pt_not (pt_val (pcb (z_isinstance T) call_isi boot_isinstance (pa_cons (pe_ix ix_tup (pv 0) pe_int (fun _ _ => rfl)) (pa_cons (pty (z_str T) boot_str) pa_nil))))) (pw_or1 (pt_cmpR (op_notIn_kd D) (pe_ix ix_tup (pv 0) pe_int (fun _ _ => rfl)) (pglR (g_FORMS T)) rfl))))))
      (pss_one (ps_ret pe_bl))
      pss_nil)
    (pss_cons (ps_set (i := 1) sc_is_statement.nd rfl (Or.inl rfl) (pe_ix ix_kdict (pglR (g_FORMS T)) (pe_ix ix_tup (pv 0) pe_int (fun _ _ => rfl)) (fun _ _ => rfl)))
    (pss_cons (ps_if (pt_cmpR op_ne (pcb (z_len T) call_len_seq boot_len (pa_cons (pv 0) pa_nil)) (pe_op op_add (pcb (z_len T) call_len_str boot_len (pa_cons (pv 1) pa_nil)) pe_int) (nomark _))
      (pss_one (ps_ret pe_bl))
      pss_nil)
    (pss_one (ps_ret (pcb (z_all T) (cr_all rfl) boot_all (pa_cons (pe_lc (own := [("item", 2), ("sign", 3)]) rfl sc_is_statement.nd (pi_zipTS (by rfl) (z_zip T) (pa_cons (pe_slice sl_tup (pv 0) (po_some pe_int) po_none) (pa_cons (pv 1) pa_nil))) (blkOk_by (own := [("item", 2), ("sign", 3)]) (N := ["value", "form", "item", "sign"]) (sc := defScope s_is_statement) (by decide +kernel)) (fun _ _ _ _ _ => (pg_tup' (n := 2) (K := K) rfl rfl (pgs_cons (pg_name (i := 2) sc_is_statement.nd rfl (Or.inl rfl) (Or.inr rfl)) (pgs_cons (pg_name (i := 3) sc_is_statement.nd rfl (Or.inl rfl) (Or.inr rfl)) pgs_nil)) rfl rfl)) (fun _ _ _ _ _ => pts_nil) (fun _ _ _ _ _ => (pc (c_is_item T) hr (pa_cons (pv 2) (pa_cons (pv 3) pa_nil))))) pa_nil))))))), ?_⟩
  refine ⟨_, rfl, _, _, _, _, true, rfl, .ty _, tyT ha, kit_ty (by decide +kernel), _, rfl, iteF ?_⟩
  refine ⟨_, rfl, true, Or.inr (Or.inl ⟨_, ha, rfl⟩), iteF ?_⟩
  refine ⟨_, rfl, _, _, _, _, rfl, rfl, ha, at0, ?_⟩
  refine ⟨_, _, _, _, true, rfl, .ty _, .base (.str _), kit_ty (by decide +kernel), _, rfl, iteF ?_⟩
  refine ⟨_, rfl, _, _, _, _, rfl, rfl, ha, at0, _, _, rfl, rfl, hu, _, rfl, iteF ?_⟩
  refine ⟨_, rfl, _, _, _, _, rfl, rfl, ha, at0, _, _, _, rfl, rfl, ⟨es, m, u, D.1, D.2, hu, ru⟩, ?_⟩
  have hl : xs.length = s.form.cps.size := ShapeS.items hx
  refine ⟨_, rfl, _, _, rfl, .inr ha, _, rfl, _, rfl, (word_sz s).2, _, _, rfl, rfl, rfl, _, rfl, ifF ?_ ?_⟩
  · rw [Bool.not_eq_false', decide_eq_true_eq]
    show V.int (((V.str s.word :: xs).length : Nat) : Int) = V.int ((s.form.length : Int) + 1)
    rw [List.length_cons, hl]
    rfl
  -- all([is_item(item, sign) for item, sign in zip(value[1:], form)])
  refine ⟨_, rfl, _, rfl, _, _, rfl, ha, cut_not, fun p hp => ?_⟩
  rw [cut_tail]
  have s1 : Same H (upd H p (.tup xs)) := smNew1 hp _
  refine ⟨_, rfl, _, xs, _, rfl, SqT.of upd_same, fun D nD => ?_⟩
  have i4 := form_five s
  refine lc_opt (walk_zipTS hl) (fun (_ : Unit) y _ => y = .bl true) (fun _ => some ()) nD (small1000 (by omega)) (fun H' e => smT e (SqT.of upd_same)) (fun _ _ _ _ h _ => h) (fun _ _ _ _ _ h _ => h) ?_ ?_
  · rintro i x H1 H2 N hi e ⟨t, y, z, rfl, ht, rfl, hy, hz⟩ hk _
    obtain ⟨c, hc, rfl⟩ := Option.map_eq_some_iff.mp hz
    refine ⟨t, _, rfl, SqT.of upd_same, rfl, _, _, rfl, _, _, rfl, rfl, rfl, ?_⟩
    refine yesI ?_
    have sx : Same H (upd H1 t (.tup [y, .str ⟨#[c]⟩])) := smNew (fun b o q => e b o (s1 b o q)) ht _
    refine ⟨_, rfl, _, rfl, c, rfl, item_ok hw (DpAll.keep sx hx) hy hc, fun H3 s3 => ?_⟩
    exact hk _ _ () rfl (fun b o q => s3 b o (smNew1 ht _ b o q)) rfl
  · intro H' ys e hD hp'
    rw [paired_const hp', range_some, List.length_map, List.length_range, rep_bl] at hD
    exact ⟨_, _, rfl, SqL.of hD, qT (all_rep _) (q _ fun b o z => e _ _ (s1 b o z))⟩
end
end RM

set_option Elab.async false
set_option linter.all false
set_option maxRecDepth 100000
set_option maxHeartbeats 2000000
namespace RM
open PySem PySem.Spec PyProof.Rows L2
section
variable {P : Program} {w : World} {K : PySem.W.Frag} {mg : Str → Option Value} {base : Heap}
/-! ### bodies_of -/
def spBodies (K : PySem.W.Frag) : Sp := fun vs H Q _ => match vs with
  | [x] => ∃ (fl : Bool) (s : Stm), Dp K H x (encS fl s) ∧
    ∀ p H' ys, Same H H' → H p = none → H' p = some (.lst ys) → DpAll K H ys (s.bodies.map fun b => seqD fl (encB fl b)) → Q (.ref p) H'
  | _ => False
theorem sc_bodies_of : FnScope ["statement", "item", "sign"] ["statement"] (defScope s_bodies_of) := ⟨rfl, rfl, rfl, by decide +kernel, rfl, by decide +kernel, by decide +kernel⟩
theorem paired_dp {K : PySem.W.Frag} {H : Hp} : ∀ {ys : List V} {ds : List PyData}, Paired (fun y a => Dp K H y a) ys ds → DpAll K H ys ds
  | _, _, .nil => .nil
  | _, _, .cons h t => .cons h (paired_dp t)
theorem c_bodies_of (T : Top w K mg) : Cal P w K mg base CX0 1 "bodies_of" (spBodies K) := by
  refine cal_0 (f_bodies_of T) (g_bodies_of T) sc_bodies_of (fun _ _ _ _ _ _ us hl => match us, hl with | [_], _ => rfl) (fun vs H Q E h => match vs, h with | [_], _ => rfl) (fun cdv A outer s H vs Q E hr h => ?_)
  match vs, h with
  | [x], h =>
  obtain ⟨fl, s, hd, q⟩ := h
  obtain ⟨a, xs, rfl, ha, hx⟩ := shape_of hd
  have hl : xs.length = s.form.cps.size := ShapeS.items hx
  have i4 := form_five s
  refine ⟨_, (pss_one (ps_ret (pe_lc (own := [("item", 1), ("sign", 2)]) rfl sc_bodies_of.nd (pi_zipTS (by rfl) (z_zip T) (pa_cons (pe_slice sl_tup (pv 0) (po_some pe_int) po_none) (pa_cons (pe_ix ix_kdict (pglR (g_FORMS T)) (pe_ix ix_tup (pv 0) pe_int (fun _ _ => rfl)) (fun _ _ => rfl)) pa_nil))) (blkOk_by (own := [("item", 1), ("sign", 2)]) (N := ["statement", "item", "sign"]) (sc := defScope s_bodies_of) (by decide +kernel)) (fun _ _ _ _ _ => (pg_tup' (n := 2) (K := K) rfl rfl (pgs_cons (pg_name (i := 1) sc_bodies_of.nd rfl (Or.inl rfl) (Or.inr rfl)) (pgs_cons (pg_name (i := 2) sc_bodies_of.nd rfl (Or.inl rfl) (Or.inr rfl)) pgs_nil)) rfl rfl)) (fun _ _ _ _ _ => (pts_one (pt_cmpR op_eq (pv 2) pe_str (nomark _)))) (fun _ _ _ _ _ => (pv 1))))), ?_⟩
  refine ⟨_, rfl, _, rfl, _, _, rfl, ha, cut_not, fun p hp => ?_⟩
  rw [cut_tail]
  have s1 : Same H (upd H p (.tup xs)) := smNew1 hp _
  refine ⟨_, rfl, _, _, _, _, rfl, rfl, smT s1 ha, at0, _, _, _, rfl, rfl, kd_form T s, ?_⟩
  refine ⟨_, xs, _, rfl, SqT.of upd_same, fun D nD => ?_⟩
  have hDn : H D = none := s1.free nD
  refine lc_opt (walk_zipTS hl) (fun (d : PyData) y _ => Dp K H y d) (fun i => if s.signs[i]? = some 98 then (s.flats ++ s.bodies.map fun b => seqD fl (encB fl b))[i]? else none) nD (small1000 (by omega)) (fun H' e => smT e (SqT.of upd_same)) (fun _ _ _ _ h _ => h) (fun _ _ _ _ _ h _ => h) ?_ ?_
  · rintro i x H1 H2 N hi e ⟨t, y, z, rfl, ht, rfl, hy, hz⟩ hk hno
    obtain ⟨c, hc, rfl⟩ := Option.map_eq_some_iff.mp hz
    have hs := sign_at hc
    refine ⟨t, _, rfl, SqT.of upd_same, rfl, _, _, rfl, _, _, rfl, rfl, rfl, _, rfl, ?_⟩
    obtain ⟨d, hd1, hd2⟩ := DpAll.getV hx hy
    by_cases c98 : c = 98
    · subst c98
      refine ⟨rfl, _, rfl, ifT (by rw [str_b, sgn]; rfl) ?_⟩
      exact ⟨_, rfl, hk _ _ d (by rw [hs, if_pos rfl]; exact hd1) (smNew1 ht _) hd2⟩
    · refine ⟨rfl, _, rfl, ifF (by rw [str_b, sgn]; exact decide_eq_false c98) ?_⟩
      exact hno (by rw [hs, if_neg (fun z => c98 (Option.some.inj z))]) _ (smNew1 ht _)
  · intro H' ys e hD hp'
    have e2 : xs.length = (s.flats ++ s.bodies.map fun b => seqD fl (encB fl b)).length := DpAll.len hx
    rw [e2, bodies_sel] at hp'
    exact q D H' ys (fun b o z => e _ _ (s1 b o z)) hDn hD (paired_dp hp')
/-! ### check_body -/
def spCheck (K : PySem.W.Frag) (n : Nat) : Sp := fun vs H Q _ => match vs with
  | [b, p] => ∃ (fl : Bool) (l : List Stm) (pth : List Int), Dp K H b (seqD fl (encB fl l)) ∧ Dp K H p (pathD pth) ∧ wB l = true ∧ dB l ≤ n ∧ pth.length + 2 * n ≤ 1000 ∧ ∀ H', Same H H' → Q .non H'
  | _ => False
theorem sc_check_body : FnScope ["body", "path", "place", "statement", "here", "number", "inner"] ["body", "path"] (defScope s_check_body) := ⟨rfl, rfl, rfl, by decide +kernel, rfl, by decide +kernel, by decide +kernel⟩
theorem path_snoc {H : Hp} {a b : Addr} {p : List Int} {i : Int} {Q : VK} (ha : SqT K H a (p.map V.int)) (hb : SqT K H b [.int i]) (hl : p.length + 1 ≤ sizeLine)
    (q : ∀ v H', Same H H' → Dp K H' v (pathD (p ++ [i])) → Q v H') : CatG K (.ref a) (.ref b) H Q :=
  catA_of ha hb (by rw [List.length_map]; exact hl) fun t H' e h => q _ H' e (path_dp (by rw [List.map_append]; exact h))
theorem ok_check (T : Top w K mg) {n : Nat} (ih : Cal P w K mg base CX0 (n + 4) "check_body" (spCheck K n)) : Cal P w K mg base CX0 (n + 5) "check_body" (spCheck K (n + 1)) := by
  refine cal_0 (f_check_body T) (g_check_body T) sc_check_body (fun _ _ _ _ _ _ us hl => match us, hl with | [_, _], _ => rfl) (fun vs H Q E h => match vs, h with | [_, _], _ => rfl) (fun cdv A outer s H vs Q E hr h => ?_)
  match vs, h with
  | [b, p], h =>
  obtain ⟨fl, l, pth, hb, hp, hw, hn, hlen, q⟩ := h
  obtain ⟨a, xs, rfl, ha, hx⟩ := seqD_inv hb
  refine ⟨_, (pss_one (ps_for PassesOwn.never rfl (pi_enumA (by rfl) (z_enumerate T) (pa_cons (pv 0) pa_nil)) (pg_tup rfl (pgs_cons (pg_name (i := 2) sc_check_body.nd rfl (Or.inl rfl)) (pgs_cons (pg_name (i := 3) sc_check_body.nd rfl (Or.inl rfl)) pgs_nil)))
      (pss_cons (ps_set (i := 4) sc_check_body.nd rfl (Or.inl rfl) (pe_op op_catG (pv 1) (pe_tup (pa_cons (pv 2) pa_nil))))
    (pss_cons (ps_if (pt_not (pt_val (pc (c_is_statement T) hr (pa_cons (pv 3) pa_nil))))
      (pss_one ps_never)
      pss_nil)
    (pss_one (ps_for PassesOwn.never rfl (pi_enumA (by rfl) (z_enumerate T) (pa_cons (pc (c_bodies_of T) hr (pa_cons (pv 3) pa_nil)) pa_nil)) (pg_tup rfl (pgs_cons (pg_name (i := 5) sc_check_body.nd rfl (Or.inl rfl)) (pgs_cons (pg_name (i := 6) sc_check_body.nd rfl (Or.inl rfl)) pgs_nil)))
      (pss_one (ps_expr (pc ih hr (pa_cons (pv 6) (pa_cons (pe_op op_catG (pv 4) (pe_tup (pa_cons (pv 5) pa_nil))) pa_nil))))))))))), ?_⟩
  have lx : xs.length = l.length := by rw [DpAll.len hx, encB_map, List.length_map]
  refine ⟨_, rfl, ?_⟩
  refine enumA_of ha (Same.refl _) fun J wk => ?_
  refine for_it wk (fun i σ H' => Same H H' ∧ ∃ v2 v3 v4 v5 v6, σ = [some (.ref a), some p, v2, v3, v4, v5, v6]) ⟨Same.refl H, _, _, _, _, _, rfl⟩ (fun _ _ _ _ h => h.1) ?_ ?_
  · rintro i x σ H1 H2 hi ⟨s1, v2, v3, v4, v5, v6, rfl⟩ ⟨t, y, z, rfl, ht, rfl, hy, hz⟩
    obtain rfl : V.int (i : Nat) = y := Option.some.inj hy
    obtain ⟨d, hd1, hd2⟩ := DpAll.getV hx hz
    obtain ⟨st, hst, rfl⟩ := encB_get hd1
    have hm : st ∈ l := List.mem_of_getElem? hst
    have hws := wB_all hw st hm
    have s2 := smNew s1 ht (.tup [.int (i : Nat), z])
    refine ⟨t, _, rfl, SqT.of upd_same, rfl, _, _, rfl, _, _, rfl, rfl, ?_⟩
    -- here = path + (place,)
    obtain ⟨pa, rfl, hpa⟩ := path_inv (Dp.keep s2 hp)
    refine ⟨_, rfl, _, rfl, (by show 1 ≤ sizeLine; decide), fun p1 hp1 => ?_⟩
    have s3 := smNew s2 hp1 (.tup [.int (i : Nat)])
    refine path_snoc (smT (smNew1 hp1 _) hpa) (SqT.of upd_same) (Nat.le_of_lt (small1000 (by omega))) fun here H3 s3' hh => ?_
    have s4 : Same H H3 := s3.trans s3'
    -- if not is_statement(statement)
    refine ⟨_, rfl, fl, st, Dp.keep s4 hd2, wl_of hws, fun H4 e4 => ⟨_, rfl, iteF ?_⟩⟩
    have s5 : Same H H4 := s4.trans e4
    -- for number, inner in enumerate(bodies_of(statement))
    refine ⟨_, rfl, fl, st, Dp.keep s5 hd2, fun pb H5 ys e5 npb hpb hys => ?_⟩
    refine enumA_of (.inl (SqL.of hpb)) (Same.refl _) fun J2 wk2 => ?_
    refine for_it wk2 (fun j σ H' => Same H5 H' ∧ ∃ v5 v6, σ = [some (.ref a), some (.ref pa), some (.int (i : Nat)), some z, some here, v5, v6]) ⟨Same.refl H5, _, _, rfl⟩ (fun _ _ _ _ h => h.1) ?_ ?_
    · rintro j x2 σ2 H6 H7 hj ⟨s6, w5, w6, rfl⟩ ⟨t2, y2, z2, rfl, ht2, rfl, hy2, hz2⟩
      obtain rfl : V.int (j : Nat) = y2 := Option.some.inj hy2
      obtain ⟨d2, hd3, hd4⟩ := DpAll.getV hys hz2
      rw [List.getElem?_map] at hd3
      obtain ⟨bd, hbd, rfl⟩ := Option.map_eq_some_iff.mp hd3
      have hmb : bd ∈ st.bodies := List.mem_of_getElem? hbd
      have s7 : Same H4 H6 := e5.trans s6
      have s8 := smNew s7 ht2 (.tup [.int (j : Nat), z2])
      refine ⟨t2, _, rfl, SqT.of upd_same, rfl, _, _, rfl, _, _, rfl, rfl, ?_⟩
      obtain ⟨ha2, rfl, hha⟩ := path_inv (Dp.keep s8 (Dp.keep e4 hh))
      refine ⟨_, rfl, _, rfl, _, rfl, (by show 1 ≤ sizeLine; decide), fun p2 hp2 => ?_⟩
      refine path_snoc (smT (smNew1 hp2 _) hha) (SqT.of upd_same) (Nat.le_of_lt (small1000 (by rw [List.length_append]; show pth.length + 1 + 1 ≤ 1000; omega))) fun hv H8 s9 hhv => ?_
      have s10 : Same H4 H8 := (smNew s8 hp2 _).trans s9
      have d1 := dB_mem hm
      have d2' := dS_mem hmb
      refine ⟨fl, bd, _, Dp.keep s10 hd4, hhv, wB_of hws bd hmb, by omega, by rw [List.length_append, List.length_append]; show pth.length + 1 + 1 + 2 * n ≤ 1000; omega, fun H9 e9 => ?_⟩
      refine ⟨fun b o z => e9 _ _ ((smNew (smNew s6 ht2 _) hp2 _).trans s9 b o z), _, _, rfl⟩
    · rintro σ2 H6 ⟨s6, w5, w6, rfl⟩
      exact ⟨s5.trans (e5.trans s6), _, _, _, _, _, rfl⟩
  · rintro σ H1 ⟨s1, v2, v3, v4, v5, v6, rfl⟩
    exact q H1 s1
theorem c_check_body (T : Top w K mg) : ∀ n, Cal P w K mg base CX0 (n + 4) "check_body" (spCheck K n)
  | 0 => cal_never (f_check_body T) (g_check_body T) (ps := ["body", "path"]) (fun _ _ _ _ _ _ us hl => match us, hl with | [_, _], _ => rfl) fun vs H Q E h => by
      match vs, h with
      | [b, p], h =>
      obtain ⟨fl, l, pth, _, _, _, hn, _⟩ := h
      have := dB_one l
      omega
  | n + 1 => ok_check T (c_check_body T n)
end
end RM

set_option Elab.async false
set_option linter.all false
set_option maxRecDepth 100000
set_option maxHeartbeats 2000000
namespace RM
open PySem PySem.Spec PyProof.Rows L2
section
variable {P : Program} {w : World} {K : PySem.W.Frag} {mg : Str → Option Value} {base : Heap}
/-! ### as_tuples -/
def spAsT (K : PySem.W.Frag) (n : Nat) : Sp := fun vs H Q _ => match vs with
  | [b] => ∃ (fl fi : Bool) (l : List Stm), Dp K H b (seqD fl (encB fi l)) ∧ dB l ≤ n ∧ cB l ≤ 1000 ∧ ∀ v H', Same H H' → Dp K H' v (.tuple (encB false l)) → Q v H'
  | _ => False
theorem sc_as_tuples : FnScope ["body", "found", "statement", "form", "items", "item", "sign"] ["body"] (defScope s_as_tuples) := ⟨rfl, rfl, rfl, by decide +kernel, rfl, by decide +kernel, by decide +kernel⟩
theorem paired_dp2 {H : Hp} : ∀ {ys : List V} {ds : List PyData}, Paired (fun y a => Dp K H y a ∧ noL a = true) ys ds → DpAll K H ys ds
  | _, _, .nil => .nil
  | _, _, .cons h t => .cons h.1 (paired_dp2 t)
theorem ok_as_tuples (T : Top w K mg) {n : Nat} (ih : Cal P w K mg base CX0 (n + 1) "as_tuples" (spAsT K n)) : Cal P w K mg base CX0 (n + 2) "as_tuples" (spAsT K (n + 1)) := by
  refine cal_0 (f_as_tuples T) (g_as_tuples T) sc_as_tuples (fun _ _ _ _ _ _ us hl => match us, hl with | [_], _ => rfl) (fun vs H Q E h => match vs, h with | [_], _ => rfl) (fun cdv A outer s H vs Q E hr h => ?_)
  match vs, h with
  | [b], h =>
  obtain ⟨fl, fi, l, hb, hn, hc, q⟩ := h
  obtain ⟨a, xs, rfl, ha, hx⟩ := seqD_inv hb
  have lx : xs.length = l.length := by rw [DpAll.len hx, encB_map, List.length_map]
  have ll := cB_len l
  refine ⟨_, (pss_cons (ps_set (i := 1) sc_as_tuples.nd rfl (Or.inl rfl) (pe_lst pa_nil))
    (pss_cons (ps_for PassesOwn.never rfl (pi_seqA (pv 0)) (pg_name (i := 2) sc_as_tuples.nd rfl (Or.inl rfl))
      (pss_cons (ps_set (i := 3) sc_as_tuples.nd rfl (Or.inl rfl) (pe_ix ix_kdict (pglR (g_FORMS T)) (pe_ix ix_tup (pv 2) pe_int (fun _ _ => rfl)) (fun _ _ => rfl)))
    (pss_cons (ps_setLc (i := 4) (own := [("item", 5), ("sign", 6)]) rfl sc_as_tuples.nd rfl rfl (sw_true rfl rfl rfl (by decide +kernel)) (pi_zipTS (by rfl) (z_zip T) (pa_cons (pe_slice sl_tup (pv 2) (po_some pe_int) po_none) (pa_cons (pv 3) pa_nil))) (blkOk_by (own := [("item", 5), ("sign", 6)]) (N := ["body", "found", "statement", "form", "items", "item", "sign"]) (sc := defScope s_as_tuples) (by decide +kernel)) (fun _ _ _ _ _ => (pg_tup' (n := 2) (K := K) rfl rfl (pgs_cons (pg_name (i := 5) sc_as_tuples.nd rfl (Or.inl rfl) (Or.inr rfl)) (pgs_cons (pg_name (i := 6) sc_as_tuples.nd rfl (Or.inl rfl) (Or.inr rfl)) pgs_nil)) rfl rfl)) (fun _ _ _ _ _ => pts_nil) (fun _ _ _ _ _ => (pe_ifExp (pt_cmpR op_eq (pv 6) pe_str (nomark _)) (pc ih hr (pa_cons (pv 5) pa_nil)) (pv 5))))
    (pss_one (ps_expr (pe_bm PySem.F.plainAttrs_list PySem.F.slot_list_append PySem.F.type_list_append mt_append (pv 1) (pa_cons (pe_op op_catG (pe_tup (pa_cons (pe_ix ix_tup (pv 2) pe_int (fun _ _ => rfl)) pa_nil)) (pct (z_tuple T) call_tuple_of boot_tuple (pa_cons (pv 4) pa_nil))) pa_nil)))))))
    (pss_one (ps_ret (pct (z_tuple T) call_tuple_of boot_tuple (pa_cons (pv 1) pa_nil)))))), ?_⟩
  refine ⟨(by show 0 ≤ sizeLine; decide), fun fd nfd => ?_⟩
  have s0 := smNew1 nfd (.lst [])
  refine ⟨_, rfl, ?_⟩
  refine seqA_of ha s0 fun J wk => ?_
  refine for_it wk (fun i σ H' => Same H H' ∧ (∃ acc, H' fd = some (.lst acc) ∧ DpAll K H' acc (encB false (l.take i))) ∧ ∃ v2 v3 v4 v5 v6, σ = [some (.ref a), some (.ref fd), v2, v3, v4, v5, v6])
    ⟨s0, ⟨[], upd_same, .nil⟩, _, _, _, _, _, rfl⟩ (fun i σ H' _ h => h.1) ?_ ?_
  · rintro i x σ H1 H2 hi ⟨s1, ⟨acc, hacc, hdp⟩, v2, v3, v4, v5, v6, rfl⟩ ⟨rfl, hx1⟩
    obtain ⟨d, hd1, hd2⟩ := DpAll.getV hx hx1
    obtain ⟨st, hst, rfl⟩ := encB_get hd1
    have hm : st ∈ l := List.mem_of_getElem? hst
    obtain ⟨sa, sxs, rfl, hsa, hsx⟩ := shape_of hd2
    have hl : sxs.length = st.form.cps.size := ShapeS.items hsx
    have i4 := form_five st
    -- form = FORMS[statement[0]]
    refine ⟨_, rfl, _, _, _, _, rfl, rfl, smT s1 hsa, at0, _, _, _, rfl, rfl, kd_form T st, ?_⟩
    -- items = [..]
    refine ⟨_, rfl, _, rfl, _, _, rfl, smT s1 hsa, cut_not, fun p hp => ?_⟩
    rw [cut_tail]
    have s2 : Same H (upd H2 p (.tup sxs)) := smNew s1 hp _
    refine ⟨_, rfl, _, sxs, _, rfl, SqT.of upd_same, fun D nD => ?_⟩
    refine lc_opt (walk_zipTS hl) (fun (d : PyData) y H => Dp K H y d ∧ noL d = true) (fun i => (st.flats ++ st.bodies.map fun b => .tuple (encB false b))[i]?) nD (small1000 (by omega)) (fun H' e => smT e (SqT.of upd_same))
      (fun _ _ _ _ h e => ⟨Dp.keep e h.1, h.2⟩) (fun _ _ _ _ _ h e => ⟨dp_ts (ts_upd _ e trivial) h.1 h.2, h.2⟩) ?_ ?_
    · rintro j x H3 H4 N hj e ⟨t, y, z, rfl, ht, rfl, hy, hz⟩ hk _
      obtain ⟨c, hc, rfl⟩ := Option.map_eq_some_iff.mp hz
      have hs := sign_at hc
      refine ⟨t, _, rfl, SqT.of upd_same, rfl, _, _, rfl, _, _, rfl, rfl, rfl, ?_⟩
      refine yesI ?_
      have s3 : Same H (upd H3 t (.tup [y, .str ⟨#[c]⟩])) := smNew (s2.trans e) ht _
      obtain ⟨d, hd3, hd4⟩ := DpAll.getV hsx hy
      by_cases c98 : c = 98
      · subst c98
        obtain ⟨bd, hbd, hat⟩ := sign98 hs
        rw [hat] at hd3
        obtain rfl := Option.some.inj hd3
        have d1 := dB_mem hm
        have d2 := dS_mem hbd
        have c1 := cB_mem hm
        have c2 := cS_mem hbd
        refine ⟨_, rfl, rfl, _, rfl, ifT (by rw [str_b, sgn]; rfl) ?_⟩
        refine ⟨_, rfl, fi, fi, bd, Dp.keep s3 hd4, by omega, by omega, fun v H5 s5 hv => ?_⟩
        exact hk _ _ _ (hat _) ((smNew1 ht _).trans s5) ⟨hv, noL_encB bd⟩
      · obtain ⟨df, hno, hat⟩ := signFlat hs c98
        rw [hat] at hd3
        obtain rfl := Option.some.inj hd3
        refine ⟨_, rfl, rfl, _, rfl, ifF (by rw [str_b, sgn]; exact decide_eq_false c98) ?_⟩
        exact ⟨_, rfl, hk _ _ _ (hat _) (smNew1 ht _) ⟨Dp.keep s3 hd4, hno⟩⟩
    · intro H3 ys e hD hp'
      rw [hl, ← show st.signs.length = st.form.cps.size by rw [← signs_eq]; rfl, ← items_len st (fun b => .tuple (encB false b)), some_range] at hp'
      have hys := paired_dp2 hp'
      have s4 : Same H2 H3 := fun b o z => e _ _ (smNew1 hp _ b o z)
      have s5 : Same H H3 := s1.trans s4
      -- found.append((statement[0],) + tuple(items))
      refine ⟨_, rfl, .inl ⟨rfl, _, SqL.of (s4 _ _ hacc)⟩, ?_⟩
      refine ⟨_, rfl, _, _, _, _, rfl, rfl, smT s5 hsa, at0, (by show 1 ≤ sizeLine; decide), fun p1 hp1 => ?_⟩
      refine ⟨_, rfl, D, _, rfl, .inl ⟨SqL.of (smNew1 hp1 _ _ _ hD), fun p2 hp2 => ?_⟩⟩
      have s6 : Same H3 (upd (upd H3 p1 (.tup [.str st.word])) p2 (.tup ys)) := smNew (smNew1 hp1 _) hp2 _
      have lys : ys.length ≤ 10 := by
        have e1 := DpAll.len hys
        rw [items_len, ← signs_eq] at e1
        have : st.form.cps.toList.length = st.form.cps.size := rfl
        omega
      refine catA_of (smT (smNew1 hp2 _) (SqT.of upd_same)) (SqT.of upd_same) (Nat.le_of_lt (small1000 (by show 1 + ys.length ≤ 1000; omega))) fun t H4 s7 ht => ?_
      have s8 : Same H3 H4 := s6.trans s7
      have hacc4 := s8 _ _ (s4 _ _ hacc)
      have l1 := (List.getElem?_eq_some_iff.mp hst).1
      refine ⟨fd, acc, .ref t, rfl, rfl, hacc4, small1000 (by have := DpAll.len hdp; rw [encB_map, List.length_map, List.length_take] at this; omega), ?_⟩
      have dpt : Dp K H4 (.ref t) (encS false st) := by
        rw [encS_eq]
        exact .tup ht (.cons (.str _) (by
          have : (st.flats ++ st.bodies.map fun b => seqD false (encB false b)) = (st.flats ++ st.bodies.map fun b => .tuple (encB false b)) := rfl
          rw [this]
          exact DpAll.keep s8 hys))
      have tsF : TS K H4 (upd H4 fd (.lst (acc ++ [.ref t]))) := ts_upd _ hacc4 trivial
      refine ⟨smOut (s5.trans s8) nfd _, ⟨_, upd_same, ?_⟩, _, _, _, _, _, rfl⟩
      rw [take_more hst, encB_map, List.map_append, ← encB_map]
      exact DpAll.snoc (dps_ts tsF (DpAll.keep (s4.trans s8) hdp) (noL_encB _)) (dp_ts tsF dpt (noL_encS st))
  · rintro σ H1 ⟨s1, ⟨acc, hacc, hdp⟩, v2, v3, v4, v5, v6, rfl⟩
    rw [lx, List.take_length] at hdp
    refine ⟨_, rfl, fd, acc, rfl, .inl ⟨SqL.of hacc, fun p hp => ?_⟩⟩
    have s2 : Same H1 (upd H1 p (.tup acc)) := smNew1 hp _
    exact q _ _ (s1.trans s2) (.tup (SqT.of upd_same) (DpAll.keep s2 hdp))
theorem c_as_tuples (T : Top w K mg) : ∀ n, Cal P w K mg base CX0 (n + 1) "as_tuples" (spAsT K n)
  | 0 => cal_never (f_as_tuples T) (g_as_tuples T) (ps := ["body"]) (fun _ _ _ _ _ _ us hl => match us, hl with | [_], _ => rfl) fun vs H Q E h => by
      match vs, h with
      | [b], h =>
      obtain ⟨fl, fi, l, _, hn, _⟩ := h
      have := dB_one l
      omega
  | n + 1 => ok_as_tuples T (c_as_tuples T n)
end
end RM

set_option Elab.async false
set_option linter.all false
set_option maxRecDepth 100000
set_option maxHeartbeats 2000000
namespace RM
open PySem PySem.Spec PyProof.Rows L2
section
variable {P : Program} {w : World} {K : PySem.W.Frag} {mg : Str → Option Value} {base : Heap}
/-! ### all_statements -/
def allD (as : List (List Int × Stm)) : List PyData := as.map fun q => .tuple [pathD q.1, encS false q.2]
theorem noL_allD (as : List (List Int × Stm)) : noLs (allD as) = true := noLs_of fun d h => by
  obtain ⟨q, _, rfl⟩ := List.mem_map.mp h
  show (noL (pathD q.1) && (noL (encS false q.2) && true)) = true
  rw [noL_path, noL_encS]
  rfl
theorem allD_app (a b : List (List Int × Stm)) : allD (a ++ b) = allD a ++ allD b := List.map_append
theorem allD_len (a : List (List Int × Stm)) : (allD a).length = a.length := List.length_map _
def spAll (K : PySem.W.Frag) (n : Nat) : Sp := fun vs H Q _ => match vs with
  | [b, p] => ∃ (l : List Stm) (pth : List Int), Dp K H b (.tuple (encB false l)) ∧ Dp K H p (pathD pth) ∧ dB l ≤ n ∧ cB l ≤ 1000 ∧ pth.length + 2 * n ≤ 1000 ∧
    ∀ r H' ys, Same H H' → H r = none → H' r = some (.lst ys) → DpAll K H' ys (allD (aB pth 0 l)) → Q (.ref r) H'
  | _ => False
theorem sc_all_statements : FnScope ["body", "path", "found", "place", "statement", "here", "number", "inner"] ["body", "path"] (defScope s_all_statements) := ⟨rfl, rfl, rfl, by decide +kernel, rfl, by decide +kernel, by decide +kernel⟩
theorem ok_all (T : Top w K mg) {n : Nat} (ih : Cal P w K mg base CX0 (n + 1) "all_statements" (spAll K n)) : Cal P w K mg base CX0 (n + 2) "all_statements" (spAll K (n + 1)) := by
  refine cal_0 (f_all_statements T) (g_all_statements T) sc_all_statements (fun _ _ _ _ _ _ us hl => match us, hl with | [_, _], _ => rfl) (fun vs H Q E h => match vs, h with | [_, _], _ => rfl) (fun cdv A outer s H vs Q E hr h => ?_)
  match vs, h with
  | [b, p], h =>
  obtain ⟨l, pth, hb, hp, hn, hc, hlen, q⟩ := h
  obtain ⟨a, xs, rfl, ha, hx⟩ := Dp.tup_inv hb
  have lx : xs.length = l.length := by rw [DpAll.len hx, encB_map, List.length_map]
  have ll := cB_len l
  refine ⟨_, (pss_cons (ps_set (i := 2) sc_all_statements.nd rfl (Or.inl rfl) (pe_lst pa_nil))
    (pss_cons (ps_for PassesOwn.never rfl (pi_enumA (by rfl) (z_enumerate T) (pa_cons (pv 0) pa_nil)) (pg_tup rfl (pgs_cons (pg_name (i := 3) sc_all_statements.nd rfl (Or.inl rfl)) (pgs_cons (pg_name (i := 4) sc_all_statements.nd rfl (Or.inl rfl)) pgs_nil)))
      (pss_cons (ps_set (i := 5) sc_all_statements.nd rfl (Or.inl rfl) (pe_op op_catG (pv 1) (pe_tup (pa_cons (pv 3) pa_nil))))
    (pss_cons (ps_expr (pe_bm PySem.F.plainAttrs_list PySem.F.slot_list_append PySem.F.type_list_append mt_append (pv 2) (pa_cons (pe_tup (pa_cons (pv 5) (pa_cons (pv 4) pa_nil))) pa_nil)))
    (pss_one (ps_for PassesOwn.never rfl (pi_enumA (by rfl) (z_enumerate T) (pa_cons (pc (c_bodies_of T) hr (pa_cons (pv 4) pa_nil)) pa_nil)) (pg_tup rfl (pgs_cons (pg_name (i := 6) sc_all_statements.nd rfl (Or.inl rfl)) (pgs_cons (pg_name (i := 7) sc_all_statements.nd rfl (Or.inl rfl)) pgs_nil)))
      (pss_one (ps_set (i := 2) sc_all_statements.nd rfl (Or.inl rfl) (pe_op op_cat (pv 2) (pc ih hr (pa_cons (pv 7) (pa_cons (pe_op op_catG (pv 5) (pe_tup (pa_cons (pv 6) pa_nil))) pa_nil)))))))))))
    (pss_one (ps_ret (pv 2))))), ?_⟩
  refine ⟨(by show 0 ≤ sizeLine; decide), fun fd nfd => ?_⟩
  refine ⟨_, rfl, ?_⟩
  refine enumA_of (.inr ha) (smNew1 nfd _) fun J wk => ?_
  refine for_it wk (fun i σ H' => Same H H' ∧ ∃ g acc, H g = none ∧ H' g = some (.lst acc) ∧ DpAll K H' acc (allD (aB pth 0 (l.take i))) ∧ ∃ v3 v4 v5 v6 v7, σ = [some (.ref a), some p, some (.ref g), v3, v4, v5, v6, v7])
    ⟨smNew1 nfd _, fd, [], nfd, upd_same, .nil, _, _, _, _, _, rfl⟩ (fun i σ H' _ h => h.1) ?_ ?_
  · rintro i x σ H1 H2 hi ⟨s1, g, acc, ng, hacc, hdp, v3, v4, v5, v6, v7, rfl⟩ ⟨t, y, z, rfl, ht, rfl, hy, hz⟩
    obtain rfl : V.int (i : Nat) = y := Option.some.inj hy
    obtain ⟨d, hd1, hd2⟩ := DpAll.getV hx hz
    obtain ⟨st, hst, rfl⟩ := encB_get hd1
    have hm : st ∈ l := List.mem_of_getElem? hst
    have l1 := (List.getElem?_eq_some_iff.mp hst).1
    have lt := cB_mem hm
    have s2 := smNew s1 ht (.tup [.int (i : Nat), z])
    refine ⟨t, _, rfl, SqT.of upd_same, rfl, _, _, rfl, _, _, rfl, rfl, ?_⟩
    -- here = path + (place,)
    obtain ⟨pa, rfl, hpa⟩ := path_inv (Dp.keep s2 hp)
    refine ⟨_, rfl, _, rfl, (by show 1 ≤ sizeLine; decide), fun p1 hp1 => ?_⟩
    refine path_snoc (smT (smNew1 hp1 _) hpa) (SqT.of upd_same) (Nat.le_of_lt (small1000 (by omega))) fun here H3 s3 hh => ?_
    have t3 : Same H1 H3 := (smNew (smNew1 ht _) hp1 _).trans s3
    have s4 : Same H H3 := s1.trans t3
    -- found.append((here, statement))
    refine ⟨_, rfl, .inl ⟨rfl, _, SqL.of (t3 _ _ hacc)⟩, ?_⟩
    refine ⟨_, rfl, _, rfl, (by show 2 ≤ sizeLine; decide), fun p2 hp2 => ?_⟩
    have t5 := smNew t3 hp2 (.tup [here, z])
    have lacc : acc.length = (aB pth 0 (l.take i)).length := by rw [DpAll.len hdp, allD_len]
    have lim : ∀ j, (aB pth 0 (l.take j)).length ≤ 1000 := fun j => by
      have e : aB pth 0 l = aB pth 0 (l.take j) ++ aB pth (0 + (l.take j).length) (l.drop j) := by rw [← aB_app, List.take_append_drop]
      have e2 := congrArg List.length e
      rw [aB_len, List.length_append] at e2
      omega
    have lim0 := lim i
    refine ⟨g, acc, _, rfl, rfl, t5 _ _ hacc, small1000 (by omega), ?_⟩
    obtain ⟨H5, e5⟩ : ∃ H5, H5 = upd (upd H3 p2 (.tup [here, z])) g (.lst (acc ++ [.ref p2])) := ⟨_, rfl⟩
    rw [← e5]
    have ts5 : TS K (upd H3 p2 (.tup [here, z])) H5 := by rw [e5]; exact ts_upd _ (t5 _ _ hacc) trivial
    have hg5 : H5 g = some (.lst (acc ++ [.ref p2])) := by rw [e5]; exact upd_same
    have s5 : Same H H5 := by rw [e5]; exact smOut (smNew s4 hp2 _) ng _
    have dh5 : Dp K H5 here (pathD (pth ++ [(i : Int)])) := dp_ts ts5 (Dp.keep (smNew1 hp2 _) hh) (noL_path _)
    have dq : Dp K (upd H3 p2 (.tup [here, z])) (.ref p2) (.tuple [pathD (pth ++ [(i : Int)]), encS false st]) :=
      .tup (SqT.of upd_same) (.cons (Dp.keep (smNew1 hp2 _) hh) (.cons (Dp.keep (smNew s4 hp2 _) hd2) .nil))
    have d5 : DpAll K H5 (acc ++ [.ref p2]) (allD (aB pth 0 (l.take i) ++ (pth ++ [(i : Int)], st) :: aBs (pth ++ [(i : Int)]) 0 (st.bodies.take 0))) := by
      rw [allD_app]
      exact dps_ts ts5 (DpAll.snoc (DpAll.keep t5 hdp) dq) (noLs_app (noL_allD _) (by
        show (noL (.tuple [pathD (pth ++ [(i : Int)]), encS false st]) && true) = true
        show ((noL (pathD (pth ++ [(i : Int)])) && (noL (encS false st) && true)) && true) = true
        rw [noL_path, noL_encS]
        rfl))
    -- for number, inner in enumerate(bodies_of(statement))
    refine ⟨_, rfl, false, st, Dp.keep s5 hd2, fun pb H6 ys e6 npb hpb hys => ?_⟩
    refine enumA_of (.inl (SqL.of hpb)) (Same.refl _) fun J2 wk2 => ?_
    have ly : ys.length = st.bodies.length := by rw [DpAll.len hys, List.length_map]
    refine for_it wk2 (fun j σ H' => Same H6 H' ∧ ∃ g2 acc2, H g2 = none ∧ H' g2 = some (.lst acc2) ∧ DpAll K H' acc2 (allD (aB pth 0 (l.take i) ++ (pth ++ [(i : Int)], st) :: aBs (pth ++ [(i : Int)]) 0 (st.bodies.take j))) ∧
        ∃ v6 v7, σ = [some (.ref a), some (.ref pa), some (.ref g2), some (.int (i : Nat)), some z, some here, v6, v7])
      ⟨Same.refl H6, g, _, ng, e6 _ _ hg5, DpAll.keep e6 d5, _, _, rfl⟩ (fun _ _ _ _ h => h.1) ?_ ?_
    · rintro j x2 σ2 H7 H8 hj ⟨s7, g2, acc2, ng2, hacc2, hdp2, w6, w7, rfl⟩ ⟨t2, y2, z2, rfl, ht2, rfl, hy2, hz2⟩
      obtain rfl : V.int (j : Nat) = y2 := Option.some.inj hy2
      obtain ⟨d2, hd3, hd4⟩ := DpAll.getV hys hz2
      rw [List.getElem?_map] at hd3
      obtain ⟨bd, hbd, rfl⟩ := Option.map_eq_some_iff.mp hd3
      have hmb : bd ∈ st.bodies := List.mem_of_getElem? hbd
      have t8 := smNew1 ht2 (.tup [.int (j : Nat), z2])
      refine ⟨t2, _, rfl, SqT.of upd_same, rfl, _, _, rfl, _, _, rfl, rfl, ?_⟩
      -- found = found + all_statements(inner, here + (number,))
      have s8 : Same H5 (upd H7 t2 (.tup [.int (j : Nat), z2])) := (e6.trans s7).trans t8
      obtain ⟨ha2, rfl, hha⟩ := path_inv (Dp.keep s8 dh5)
      refine ⟨_, rfl, _, rfl, _, rfl, _, rfl, (by show 1 ≤ sizeLine; decide), fun p3 hp3 => ?_⟩
      refine path_snoc (smT (smNew1 hp3 _) hha) (SqT.of upd_same) (Nat.le_of_lt (small1000 (by rw [List.length_append]; show pth.length + 1 + 1 ≤ 1000; omega))) fun hv H9 s9 hhv => ?_
      have t9 : Same H7 H9 := (smNew t8 hp3 _).trans s9
      have d1 := dB_mem hm
      have d2' := dS_mem hmb
      have c2 := cS_mem hmb
      have hd5 := Dp.keep (e6.trans (s7.trans t9)) hd4
      refine ⟨bd, _, hd5, hhv, by omega, by omega, by rw [List.length_append, List.length_append]; show pth.length + 1 + 1 + 2 * n ≤ 1000; omega, fun r H10 zs e10 nr hr2 hzs => ?_⟩
      have t10 : Same H7 H10 := t9.trans e10
      have lz : zs.length = cB bd := by rw [DpAll.len hzs, allD_len, aB_len]
      have la2 : acc2.length ≤ 1000 := by
        have e1 := DpAll.len hdp2
        rw [allD_len] at e1
        have e2 : aB pth 0 (l.take (i + 1)) = aB pth 0 (l.take i) ++ (pth ++ [(i : Int)], st) :: aBs (pth ++ [(i : Int)]) 0 st.bodies := by rw [aB_take hst, aS_eq]
        have e3 : aBs (pth ++ [(i : Int)]) 0 st.bodies = aBs (pth ++ [(i : Int)]) 0 (st.bodies.take j) ++ aBs (pth ++ [(i : Int)]) (0 + (st.bodies.take j).length) (st.bodies.drop j) := by rw [← aBs_app, List.take_append_drop]
        have e4 := lim (i + 1)
        rw [e2, e3, List.length_append, List.length_cons, List.length_append] at e4
        rw [List.length_append, List.length_cons] at e1
        omega
      refine ⟨g2, r, acc2, zs, rfl, rfl, t10 _ _ hacc2, hr2, Nat.le_of_lt (Nat.lt_of_le_of_lt (show acc2.length + zs.length ≤ 2000 by omega) (by decide)), fun pn hpn => ?_⟩
      have t11 := smNew t10 hpn (.lst (acc2 ++ zs))
      refine ⟨s7.trans t11, pn, _, ?_, upd_same, ?_, _, _, rfl⟩
      · exact (s5.trans (e6.trans (s7.trans t10))).free hpn
      · rw [aBs_take hbd, ← List.cons_append, ← List.append_assoc, allD_app]
        exact DpAll.app (DpAll.keep t11 hdp2) (DpAll.keep (smNew1 hpn _) hzs)
    · rintro σ2 H7 ⟨s7, g2, acc2, ng2, hacc2, hdp2, w6, w7, rfl⟩
      rw [ly, List.take_length, ← aS_eq, ← aB_take hst] at hdp2
      exact ⟨s5.trans (e6.trans s7), g2, acc2, ng2, hacc2, hdp2, _, _, _, _, _, rfl⟩
  · rintro σ H1 ⟨s1, g, acc, ng, hacc, hdp, v3, v4, v5, v6, v7, rfl⟩
    rw [lx, List.take_length] at hdp
    exact ⟨_, rfl, q g H1 acc s1 ng hacc hdp⟩
theorem c_all_statements (T : Top w K mg) : ∀ n, Cal P w K mg base CX0 (n + 1) "all_statements" (spAll K n)
  | 0 => cal_never (f_all_statements T) (g_all_statements T) (ps := ["body", "path"]) (fun _ _ _ _ _ _ us hl => match us, hl with | [_, _], _ => rfl) fun vs H Q E h => by
      match vs, h with
      | [b, p], h =>
      obtain ⟨l, pth, _, _, hn, _⟩ := h
      have := dB_one l
      omega
  | n + 1 => ok_all T (c_all_statements T n)
/-! ### depth_of -/
def spDepth (K : PySem.W.Frag) (n : Nat) : Sp := fun vs H Q _ => match vs with
  | [b] => ∃ (l : List Stm), Dp K H b (.tuple (encB false l)) ∧ dB l ≤ n ∧ ∀ H', Same H H' → Q (.int (dB l : Nat)) H'
  | _ => False
theorem sc_depth_of : FnScope ["body", "deepest", "statement", "inner"] ["body"] (defScope s_depth_of) := ⟨rfl, rfl, rfl, by decide +kernel, rfl, by decide +kernel, by decide +kernel⟩
theorem ok_depth (T : Top w K mg) {n : Nat} (ih : Cal P w K mg base CX0 (n + 1) "depth_of" (spDepth K n)) : Cal P w K mg base CX0 (n + 2) "depth_of" (spDepth K (n + 1)) := by
  refine cal_0 (f_depth_of T) (g_depth_of T) sc_depth_of (fun _ _ _ _ _ _ us hl => match us, hl with | [_], _ => rfl) (fun vs H Q E h => match vs, h with | [_], _ => rfl) (fun cdv A outer s H vs Q E hr h => ?_)
  match vs, h with
  | [b], h =>
  obtain ⟨l, hb, hn, q⟩ := h
  obtain ⟨a, xs, rfl, ha, hx⟩ := Dp.tup_inv hb
  have lx : xs.length = l.length := by rw [DpAll.len hx, encB_map, List.length_map]
  refine ⟨_, (pss_cons (ps_set (i := 1) sc_depth_of.nd rfl (Or.inl rfl) pe_int)
    (pss_cons (ps_for PassesOwn.never rfl (pi_seqA (pv 0)) (pg_name (i := 2) sc_depth_of.nd rfl (Or.inl rfl))
      (pss_one (ps_for PassesOwn.never rfl (pi_seqA (pc (c_bodies_of T) hr (pa_cons (pv 2) pa_nil))) (pg_name (i := 3) sc_depth_of.nd rfl (Or.inl rfl))
      (pss_one (ps_set (i := 1) sc_depth_of.nd rfl (Or.inl rfl) (pcb (z_max T) (call_max2 rfl) boot_max (pa_cons (pv 1) (pa_cons (pc ih hr (pa_cons (pv 3) pa_nil)) pa_nil))))))))
    (pss_one (ps_ret (pe_op op_add (pv 1) pe_int))))), ?_⟩
  refine ⟨_, rfl, ?_⟩
  refine seqA_of (.inr ha) (Same.refl _) fun J wk => ?_
  refine for_it wk (fun i σ H' => Same H H' ∧ ∃ v2 v3, σ = [some (.ref a), some (.int ((dB (l.take i) : Nat) - 1 : Int)), v2, v3]) ⟨Same.refl H, none, none, rfl⟩ (fun i σ H' _ h => h.1) ?_ ?_
  · rintro i x σ H1 H2 hi ⟨s1, v2, v3, rfl⟩ ⟨rfl, hx1⟩
    obtain ⟨d, hd1, hd2⟩ := DpAll.getV hx hx1
    obtain ⟨st, hst, rfl⟩ := encB_get hd1
    have hm : st ∈ l := List.mem_of_getElem? hst
    have d1 := dB_mem hm
    refine ⟨_, rfl, false, st, Dp.keep s1 hd2, fun pb H3 ys e3 npb hpb hys => ?_⟩
    have ly : ys.length = st.bodies.length := by rw [DpAll.len hys, List.length_map]
    refine seqA_of (.inl (SqL.of hpb)) (Same.refl _) fun J2 wk2 => ?_
    have o1 := dB_one (l.take i)
    refine for_it wk2 (fun j σ H' => Same H3 H' ∧ ∃ v3, σ = [some (.ref a), some (.int ((max (dB (l.take i) - 1) (dBs (st.bodies.take j)) : Nat) : Int)), some x, v3]) ⟨Same.refl H3, v3, ?_⟩ (fun _ _ _ _ h => h.1) ?_ ?_
    · have e : ((max (dB (l.take i) - 1) (dBs (st.bodies.take 0)) : Nat) : Int) = ((dB (l.take i) : Nat) : Int) - 1 := by
        show ((max (dB (l.take i) - 1) 0 : Nat) : Int) = _
        omega
      rw [e]
      rfl
    · rintro j x2 σ2 H4 H5 hj ⟨s4, w3, rfl⟩ ⟨rfl, hx2⟩
      obtain ⟨d2, hd3, hd4⟩ := DpAll.getV hys hx2
      rw [List.getElem?_map] at hd3
      obtain ⟨bd, hbd, rfl⟩ := Option.map_eq_some_iff.mp hd3
      have d2' := dS_mem (List.mem_of_getElem? hbd)
      have hd5 := Dp.keep (e3.trans s4) hd4
      refine ⟨_, rfl, _, rfl, bd, hd5, by omega, fun H6 e6 => ?_⟩
      refine ⟨_, _, rfl, s4.trans e6, some x2, ?_⟩
      rw [take_more hbd, dBs_snoc]
      have e : (if ((dB bd : Nat) : Int) > ((max (dB (l.take i) - 1) (dBs (st.bodies.take j)) : Nat) : Int) then ((dB bd : Nat) : Int) else ((max (dB (l.take i) - 1) (dBs (st.bodies.take j)) : Nat) : Int)) =
          ((max (dB (l.take i) - 1) (max (dBs (st.bodies.take j)) (dB bd)) : Nat) : Int) := by
        split <;> omega
      rw [← e]
      rfl
    · rintro σ2 H4 ⟨s4, w3, rfl⟩
      refine ⟨s1.trans (e3.trans s4), some x, w3, ?_⟩
      rw [ly, List.take_length, ← dS_eq, take_more hst, dB_snoc]
      have e : ((max (dB (l.take i) - 1) (dS st) : Nat) : Int) = ((max (dB (l.take i)) (dS st + 1) : Nat) : Int) - 1 := by omega
      rw [e]
  · rintro σ H1 ⟨s1, v2, v3, rfl⟩
    refine ⟨_, rfl, _, _, rfl, rfl, ?_⟩
    have e : V.int (((dB (l.take xs.length) : Nat) : Int) - 1 + 1) = V.int ((dB l : Nat) : Int) := by
      rw [lx, List.take_length]
      exact congrArg V.int (by omega)
    show Q (V.int (((dB (l.take xs.length) : Nat) : Int) - 1 + 1)) H1
    rw [e]
    exact q H1 s1
theorem c_depth_of (T : Top w K mg) : ∀ n, Cal P w K mg base CX0 (n + 1) "depth_of" (spDepth K n)
  | 0 => cal_never (f_depth_of T) (g_depth_of T) (ps := ["body"]) (fun _ _ _ _ _ _ us hl => match us, hl with | [_], _ => rfl) fun vs H Q E h => by
      match vs, h with
      | [b], h =>
      obtain ⟨l, _, hn, _⟩ := h
      have := dB_one l
      omega
  | n + 1 => ok_depth T (c_depth_of T n)
end
end RM

set_option Elab.async false
set_option linter.all false
set_option maxRecDepth 100000
set_option maxHeartbeats 2000000
namespace RM
open PySem PySem.Spec PyProof.Rows L2
section
variable {P : Program} {w : World} {K : PySem.W.Frag} {mg : Str → Option Value} {base : Heap}
/-! ### check_size -/
def spSize (K : PySem.W.Frag) : Sp := fun vs H Q _ => match vs with
  | [b] => ∃ (l : List Stm), Dp K H b (.tuple (encB false l)) ∧ dB l ≤ 4 ∧ cB l ≤ 60 ∧ ∀ H', Same H H' → Q .non H'
  | _ => False
theorem sc_check_size : FnScope ["body"] ["body"] (defScope s_check_size) := ⟨rfl, rfl, rfl, by decide +kernel, rfl, by decide +kernel, by decide +kernel⟩
theorem path0 {K : PySem.W.Frag} {H : Hp} {a : Addr} (h : SqT K H a []) : Dp K H (.ref a) (pathD []) := .tup h .nil
theorem c_check_size (T : Top w K mg) : Cal P w K mg base CX0 6 "check_size" (spSize K) := by
  refine cal_0 (f_check_size T) (g_check_size T) sc_check_size (fun _ _ _ _ _ _ us hl => match us, hl with | [_], _ => rfl) (fun vs H Q E h => match vs, h with | [_], _ => rfl) (fun cdv A outer s H vs Q E hr h => ?_)
  match vs, h with
  | [b], h =>
  obtain ⟨l, hb, hd, hc, q⟩ := h
  refine ⟨_, (pss_cons (ps_if (pt_cmpR op_gt (pcb (z_len T) call_len_seq boot_len (pa_cons (pc (c_all_statements T 4) hr (pa_cons (pv 0) (pa_cons (pe_tup pa_nil) pa_nil))) pa_nil)) (pglI (i_MOST_programs T)) (nomark _))
      (pss_one ps_never)
      pss_nil)
    (pss_one (ps_if (pt_cmpR op_gt (pc (c_depth_of T 4) hr (pa_cons (pv 0) pa_nil)) (pglI (i_DEEPEST T)) (nomark _))
      (pss_one ps_never)
      pss_nil))), ?_⟩
  refine ⟨_, rfl, (by show 0 ≤ sizeLine; decide), fun p hp => ?_⟩
  have s1 : Same H (upd H p (.tup [])) := smNew1 hp _
  refine ⟨l, [], Dp.keep s1 hb, path0 (SqT.of upd_same), hd, by omega, by show 0 + 2 * 4 ≤ 1000; omega, fun r H1 ys e1 hr1 hr2 hys => ?_⟩
  have hl : ys.length = cB l := by rw [DpAll.len hys, allD_len, aB_len]
  refine ⟨r, ys, rfl, .inl (SqL.of hr2), _, _, rfl, rfl, _, rfl, ?_⟩
  refine ifF (decide_eq_false (by show ¬ ((60 : Int) < (ys.length : Nat)); omega)) ?_
  have s2 : Same H H1 := s1.trans e1
  refine ⟨_, rfl, l, Dp.keep s2 hb, hd, fun H2 s3 => ?_⟩
  refine ⟨_, _, rfl, rfl, _, rfl, ?_⟩
  refine ifF (decide_eq_false (by show ¬ ((4 : Int) < (dB l : Nat)); omega)) ?_
  exact q H2 (s2.trans s3)
end
end RM

set_option Elab.async false
set_option linter.all false
set_option maxRecDepth 100000
set_option maxHeartbeats 2000000
namespace RM
open PySem PySem.Spec PyProof.Rows L2
section
variable {P : Program} {w : World} {K : PySem.W.Frag} {mg : Str → Option Value} {base : Heap}
/-! ### Program -/
def PrgAt (K : PySem.W.Frag) (H : Hp) (a : Addr) (l : List Stm) : Prop := ∃ dx v, H a = some (.ins (He.ga K "Program") dx [("body", v)]) ∧ Dp K H v (.tuple (encB false l))
theorem PrgAt.keep {H H' : Hp} {a : Addr} {l : List Stm} (e : Same H H') (p : PrgAt K H a l) : PrgAt K H' a l := let ⟨dx, v, h, d⟩ := p; ⟨dx, v, e _ _ h, Dp.keep e d⟩
def spInit (K : PySem.W.Frag) : Sp := fun vs H Q _ => match vs with
  | [x, b] => ∃ a dx fl l, x = .ref a ∧ H a = some (.ins (He.ga K "Program") dx []) ∧ Dp K H b (seqD fl (encB fl l)) ∧ wB l = true ∧ dB l ≤ 4 ∧ cB l ≤ 60 ∧
    ∀ H', (∀ b u, b ≠ a → H b = some u → H' b = some u) → PrgAt K H' a l → Q .non H'
  | _ => False
theorem sc_Program_init : FnScope ["self", "body"] ["self", "body"] (defScope s_Program_init) := ⟨rfl, rfl, rfl, by decide +kernel, rfl, by decide +kernel, by decide +kernel⟩
theorem c_Program_init (T : Top w K mg) : Mak P w K mg base CX0 9 "Program" (He.ga K "Program") (spInit K) := by
  refine mak_0 (f_Program_init T) (mk_Program T) (g_Program T) sc_Program_init (fun _ _ _ _ _ _ us hl => match us, hl with | [_, _], _ => rfl) (fun vs H Q E h => match vs, h with | [_, _], _ => rfl) (fun cdv A outer s H vs Q E hr h => ?_)
  match vs, h with
  | [x, b], h =>
  obtain ⟨a, dx, fl, l, rfl, ha, hb, hw, hd, hc, q⟩ := h
  obtain ⟨b, xs, rfl, hb1, hb2⟩ := seqD_inv hb
  refine ⟨_, (pss_cons (ps_if (pt_not (pt_val (pcb (z_isinstance T) call_isiT boot_isinstance (pa_cons (pv 1) (pa_cons (pe_tup (pa_cons (pty (z_list T) boot_list) (pa_cons (pty (z_tuple T) boot_tuple) pa_nil))) pa_nil)))))
      (pss_one ps_never)
      pss_nil)
    (pss_cons (ps_expr (pc (c_check_body T 4) hr (pa_cons (pv 1) (pa_cons (pe_tup pa_nil) pa_nil))))
    (pss_cons (ps_fld (pv 0) (pc (c_as_tuples T 4) hr (pa_cons (pv 1) pa_nil)) rfl)
    (pss_one (ps_expr (pc (c_check_size T) hr (pa_cons (pe_fld (pv 0) rfl) pa_nil))))))), ?_⟩
  refine ⟨_, rfl, (by show 2 ≤ sizeLine; decide), fun p hp => ?_⟩
  have s1 : Same H (upd H p (.tup [.ty "list", .ty "tuple"])) := smNew1 hp _
  obtain ⟨ty, ht, hk⟩ := ty_seq hb1 s1
  refine ⟨_, p, _, ty, _, true, rfl, upd_same, .cons (.ty _) (.cons (.ty _) .nil), ht, hk, _, rfl, ?_⟩
  refine ifF rfl ?_
  refine ⟨_, rfl, (by show 0 ≤ sizeLine; decide), fun p2 hp2 => ?_⟩
  have s2 := smNew s1 hp2 (.tup [])
  refine ⟨fl, l, [], Dp.keep s2 hb, path0 (SqT.of upd_same), hw, hd, by show 0 + 2 * 4 ≤ 1000; omega, fun H3 s3 => ?_⟩
  have s4 : Same H H3 := s2.trans s3
  refine ⟨_, rfl, fl, fl, l, Dp.keep s4 hb, hd, by omega, fun v H4 s5 hv => ?_⟩
  have s6 := s4.trans s5
  have ha4 := s6 _ _ ha
  refine ⟨_, rfl, a, _, dx, [], rfl, ha4, k_Program T, na_Program_body T, by decide, ?_⟩
  have ts : TS K H4 (upd H4 a (.ins (He.ga K "Program") dx [("body", v)])) := ts_upd _ ha4 trivial
  have hv5 := dp_ts ts hv (noL_tuple (noL_encB l))
  refine ⟨_, rfl, a, _, dx, _, v, rfl, upd_same, k_Program T, na_Program_body T, rfl, l, hv5, hd, hc, fun H6 s7 => ?_⟩
  refine q H6 (fun b u hb hu => s7 _ _ ?_) ⟨dx, v, s7 _ _ upd_same, Dp.keep s7 hv5⟩
  rw [upd_ne hb]
  exact s6 _ _ hu
/-! ### == -/
def spPEq (K : PySem.W.Frag) : Sp := fun vs H Q _ => match vs with
  | [x, y] => ∃ a b l m, x = .ref a ∧ y = .ref b ∧ PrgAt K H a l ∧ PrgAt K H b m ∧ wB l = true ∧ wB m = true ∧ dB l ≤ 4 ∧ dB m ≤ 4 ∧ Q (.bl (PyData.eqv (.tuple (encB false l)) (.tuple (encB false m)))) H
  | _ => False
theorem sc_Program_eq : FnScope ["self", "other"] ["self", "other"] (defScope s_Program_eq) := ⟨rfl, rfl, rfl, by decide +kernel, rfl, by decide +kernel, by decide +kernel⟩
theorem c_Program_eq (T : Top w K mg) : Own P w K mg base 1 (He.ga K "Program") "__eq__" (spPEq K) := by
  refine own_0 (f_Program_eq T) (spc_Program_eq T) sc_Program_eq (fun _ _ _ _ _ _ us hl => match us, hl with | [_, _], _ => rfl) (fun vs H Q E h => match vs, h with | [_, _], _ => rfl) (fun cdv A outer s H vs Q E hr h => ?_)
  match vs, h with
  | [x, y], h =>
  obtain ⟨a, b, l, m, rfl, rfl, ⟨dx, v, ha, hv⟩, ⟨dy, u, hb, hu⟩, wl, wm, hl, hm, q⟩ := h
  refine ⟨_, (pss_cons (ps_if (pt_not (pt_val (pcb (z_isinstance T) call_isi boot_isinstance (pa_cons (pv 1) (pa_cons (pglR (g_Program T)) pa_nil)))))
      (pss_one ps_never)
      pss_nil)
    (pss_one (ps_ret (pe_cmpR (op_eqD (room64 hr)) (pe_fld (pv 0) rfl) (pe_fld (pv 1) rfl) (nomark _))))), ?_⟩
  refine ⟨_, rfl, _, _, _, _, true, rfl, .own _, .base (insB_ty (ins_Program T) (k_Program T) hb), kitC_ok (kit_Program_Program T), ?_⟩
  refine ⟨_, rfl, ifF rfl ?_⟩
  refine ⟨_, rfl, a, _, dx, _, v, rfl, ha, k_Program T, na_Program_body T, rfl, ?_⟩
  refine ⟨_, rfl, b, _, dy, _, u, rfl, hb, k_Program T, na_Program_body T, rfl, ?_⟩
  exact ⟨_, _, hv, hu, shaped_encB (fl := false) wl hl, shaped_encB (fl := false) wm hm, q⟩
end
end RM

set_option Elab.async false
set_option linter.all false
set_option maxRecDepth 100000
set_option maxHeartbeats 2000000
namespace RM
open PySem PySem.Spec PyProof.Rows L2
section
variable {P : Program} {w : World} {K : PySem.W.Frag} {mg : Str → Option Value} {base : Heap}
/-! ### reads, keys_of, variables -/
def readOf (q : List Int × Stm) : Option (List Int × Str) := match q.2 with | .read _ k => some (q.1, k) | _ => none
def readsOf (l : List Stm) : List (List Int × Str) := (aB [] 0 l).filterMap readOf
def readD (r : List Int × Str) : PyData := .tuple [pathD r.1, .str r.2]
theorem noL_readD (r : List Int × Str) : noL (readD r) = true := by
  show (noL (pathD r.1) && (noL (.str r.2) && true)) = true
  rw [noL_path]
  rfl
theorem filterMap_at {α β : Type} (l : List α) (f : α → Option β) : (List.range l.length).filterMap (fun i => (l[i]?).bind f) = l.filterMap f := by
  have := congrArg (List.filterMap f) (some_range l)
  rw [List.filterMap_filterMap] at this
  exact this
def spReads (K : PySem.W.Frag) : Sp := fun vs H Q _ => match vs with
  | [x] => ∃ a l, x = .ref a ∧ PrgAt K H a l ∧ dB l ≤ 4 ∧ cB l ≤ 1000 ∧
    ∀ p H' ys, Same H H' → H p = none → H' p = some (.lst ys) → DpAll K H' ys ((readsOf l).map readD) → Q (.ref p) H'
  | _ => False
theorem sc_Program_reads : FnScope ["self", "path", "one"] ["self"] (defScope s_Program_reads) := ⟨rfl, rfl, rfl, by decide +kernel, rfl, by decide +kernel, by decide +kernel⟩
theorem paired_map {K : PySem.W.Frag} {H : Hp} {α : Type} {f : α → PyData} : ∀ {ys : List V} {l : List α}, Paired (fun y r => Dp K H y (f r)) ys l → DpAll K H ys (l.map f)
  | _, _, .nil => .nil
  | _, _, .cons h t => .cons h (paired_map t)
theorem c_Program_reads (T : Top w K mg) : Met P w K mg base CX0 6 (He.ga K "Program") "reads" (spReads K) := by
  refine met_0 (f_Program_reads T) (k_Program T) (me_Program_reads T) sc_Program_reads (fun _ _ _ _ _ _ us hl => match us, hl with | [_], _ => rfl) (fun vs H Q E h => match vs, h with | [_], _ => rfl) (fun cdv A outer s H vs Q E hr h => ?_)
  match vs, h with
  | [x], h =>
  obtain ⟨a, l, rfl, ⟨dx, v, ha, hv⟩, hd, hc, q⟩ := h
  refine ⟨_, (pss_one (ps_ret (pe_lc (own := [("path", 1), ("one", 2)]) rfl sc_Program_reads.nd (pi_seqA (pc (c_all_statements T 4) hr (pa_cons (pe_fld (pv 0) rfl) (pa_cons (pe_tup pa_nil) pa_nil)))) (blkOk_by (own := [("path", 1), ("one", 2)]) (N := ["self", "path", "one"]) (sc := defScope s_Program_reads) (by decide +kernel)) (fun _ _ _ _ _ => (pg_tup' (n := 2) (K := K) rfl rfl (pgs_cons (pg_name (i := 1) sc_Program_reads.nd rfl (Or.inl rfl) (Or.inr rfl)) (pgs_cons (pg_name (i := 2) sc_Program_reads.nd rfl (Or.inl rfl) (Or.inr rfl)) pgs_nil)) rfl rfl)) (fun _ _ _ _ _ => (pts_one (pt_cmpR op_eq (pe_ix (ix_tup' (K := K) rfl) (pv 2) pe_int (fun _ _ => rfl)) pe_str (nomark _)))) (fun _ _ _ _ _ => (pe_tup (pa_cons (pv 1) (pa_cons (pe_ix (ix_tup' (K := K) rfl) (pv 2) pe_int (fun _ _ => rfl)) pa_nil))))))), ?_⟩
  refine ⟨_, rfl, a, _, dx, _, v, rfl, ha, k_Program T, na_Program_body T, rfl, (by show 0 ≤ sizeLine; decide), fun p hp => ?_⟩
  have s1 : Same H (upd H p (.tup [])) := smNew1 hp _
  refine ⟨l, [], Dp.keep s1 hv, path0 (SqT.of upd_same), hd, hc, by show 0 + 2 * 4 ≤ 1000; omega, fun r H1 ys e1 hr1 hr2 hys => ?_⟩
  have s2 : Same H H1 := s1.trans e1
  have hl : ys.length = (aB [] 0 l).length := by rw [DpAll.len hys, allD_len]
  have hl2 : ys.length ≤ 1000 := by rw [hl, aB_len]; exact hc
  refine seqA_of (.inl (SqL.of hr2)) (Same.refl _) fun J wk => ?_
  intro D nD
  refine lc_opt wk (fun (r : List Int × Str) y H => Dp K H y (readD r)) (fun i => ((aB [] 0 l)[i]?).bind readOf) nD (small1000 hl2) (fun H' e => e) (fun _ _ _ _ h e => Dp.keep e h)
    (fun r _ _ _ _ h e => dp_ts (ts_upd _ e trivial) h (noL_readD r)) ?_ ?_
  · rintro i x H2 H3 N hi e ⟨rfl, hx⟩ hk hno
    obtain ⟨d, hd1, hd2⟩ := DpAll.getV hys hx
    unfold allD at hd1
    rw [List.getElem?_map] at hd1
    obtain ⟨⟨pth, st⟩, hq, rfl⟩ := Option.map_eq_some_iff.mp hd1
    obtain ⟨t, zs, rfl, ht, hz⟩ := Dp.tup_inv (Dp.keep e hd2)
    obtain ⟨z1, r1, rfl, hz1, hz⟩ := DpAll.cons_inv hz
    obtain ⟨z2, r2, rfl, hz2, hz⟩ := DpAll.cons_inv hz
    obtain rfl := DpAll.nil_inv hz
    obtain ⟨sa, sxs, rfl, hsa, hsx⟩ := shape_of hz2
    refine ⟨t, _, rfl, ht, rfl, _, _, rfl, _, _, rfl, rfl, rfl, ?_⟩
    refine ⟨_, rfl, _, _, _, _, rfl, rfl, hsa, at0, rfl, _, rfl, ?_⟩
    by_cases hw : st.word = "read"
    · obtain ⟨v, k, rfl⟩ := (word_read st).mp hw
      refine ifT (decide_eq_true (congrArg V.str hw)) ?_
      obtain ⟨v1, r3, rfl, h1, h2⟩ := DpAll.cons_inv hsx
      obtain ⟨v2, r4, rfl, h3, h4⟩ := DpAll.cons_inv h2
      obtain rfl := Dp.str_inv h3
      refine ⟨_, rfl, _, rfl, _, _, _, _, rfl, rfl, hsa, at2, (by show 2 ≤ sizeLine; decide), fun p hp => ?_⟩
      refine hk _ _ (pth, k) (by rw [hq]; rfl) (smNew1 hp _) ?_
      exact .tup (SqT.of upd_same) (.cons (Dp.keep (smNew1 hp _) hz1) (.cons (.str _) .nil))
    · refine ifF (decide_eq_false fun e => hw (V.str.inj e)) ?_
      refine hno ?_ _ (Same.refl _)
      rw [hq]
      cases st <;> first | rfl | exact absurd rfl hw
  · intro H3 zs e hD hp'
    rw [hl, filterMap_at] at hp'
    exact q D H3 zs (s2.trans e) (s2.free nD) hD (paired_map hp')
end
end RM

set_option Elab.async false
set_option linter.all false
set_option maxRecDepth 100000
set_option maxHeartbeats 2000000
namespace RM
open PySem PySem.Spec PyProof.Rows L2
section
variable {P : Program} {w : World} {K : PySem.W.Frag} {mg : Str → Option Value} {base : Heap}
/-! ### keys_of, variables -/
def spKeys (K : PySem.W.Frag) : Sp := fun vs H Q _ => match vs with
  | [x] => ∃ a l, x = .ref a ∧ PrgAt K H a l ∧ dB l ≤ 4 ∧ cB l ≤ 1000 ∧
    ∀ ks p H', Same H H' → H' p = some (.tup (ks.map V.str)) → RM.KeysOf ks ((readsOf l).map (·.2)) → Q (.ref p) H'
  | _ => False
theorem reads_len (l : List Stm) : (readsOf l).length ≤ cB l := by
  rw [← aB_len [] 0 l]
  exact List.length_filterMap_le ..
theorem sc_Program_keys_of : FnScope ["self", "path", "key"] ["self"] (defScope s_Program_keys_of) := ⟨rfl, rfl, rfl, by decide +kernel, rfl, by decide +kernel, by decide +kernel⟩
theorem c_Program_keys_of (T : Top w K mg) : Met P w K mg base CX0 7 (He.ga K "Program") "keys_of" (spKeys K) := by
  refine met_0 (f_Program_keys_of T) (k_Program T) (me_Program_keys_of T) sc_Program_keys_of (fun _ _ _ _ _ _ us hl => match us, hl with | [_], _ => rfl) (fun vs H Q E h => match vs, h with | [_], _ => rfl) (fun cdv A outer s H vs Q E hr h => ?_)
  match vs, h with
  | [x], h =>
  obtain ⟨a, l, rfl, pa, hd, hc, q⟩ := h
  obtain ⟨dx, v, ha, hv⟩ := id pa
  refine ⟨_, (pss_one (ps_ret (pct (z_tuple T) call_tuple_of boot_tuple (pa_cons (pcb (z_sorted T) (cr_sortX rfl) boot_sorted (pa_cons (pe_scX (own := [("path", 1), ("key", 2)]) rfl sc_Program_keys_of.nd (pi_seqA (pmt0 (c_Program_reads T) hr (pv 0))) (blkOk_by (own := [("path", 1), ("key", 2)]) (N := ["self", "path", "key"]) (sc := defScope s_Program_keys_of) (by decide +kernel)) (fun _ _ _ _ _ => (pg_tup' (n := 2) (K := K) rfl rfl (pgs_cons (pg_name (i := 1) sc_Program_keys_of.nd rfl (Or.inl rfl) (Or.inr rfl)) (pgs_cons (pg_name (i := 2) sc_Program_keys_of.nd rfl (Or.inl rfl) (Or.inr rfl)) pgs_nil)) rfl rfl)) (fun _ _ _ _ _ => pts_nil) (fun _ _ _ _ _ => (pv 2))) pa_nil)) pa_nil)))), ?_⟩
  refine ⟨_, rfl, a, dx, _, rfl, ha, rfl, a, l, rfl, pa, hd, hc, fun r H1 ys s1 nr hr2 hys => ?_⟩
  have hl : ys.length = (readsOf l).length := by rw [DpAll.len hys, List.length_map]
  have hl2 : ys.length ≤ 1000 := by have := reads_len l; omega
  refine seqA_of (.inl (SqL.of hr2)) (Same.refl _) fun J wk => ?_
  intro D nD
  refine scX_of wk (fun i => ((readsOf l).map (·.2))[i]?) nD hl2 (fun H' e => e) ?_ ?_
  · rintro i x H2 H3 N hi e ⟨rfl, hx⟩ hk hno
    obtain ⟨d, hd1, hd2⟩ := DpAll.getV hys hx
    rw [List.getElem?_map] at hd1
    obtain ⟨⟨pth, k⟩, hq, rfl⟩ := Option.map_eq_some_iff.mp hd1
    obtain ⟨t, zs, rfl, ht, hz⟩ := Dp.tup_inv (Dp.keep e hd2)
    obtain ⟨z1, r1, rfl, hz1, hz⟩ := DpAll.cons_inv hz
    obtain ⟨z2, r2, rfl, hz2, hz⟩ := DpAll.cons_inv hz
    obtain rfl := DpAll.nil_inv hz
    obtain rfl := Dp.str_inv hz2
    refine ⟨t, _, rfl, ht, rfl, _, _, rfl, _, _, rfl, rfl, rfl, ?_⟩
    refine yesI ?_
    exact ⟨_, rfl, hk _ k (by rw [List.getElem?_map, hq]; rfl) (Same.refl _)⟩
  · intro H3 zs e hD hlen hm
    refine ⟨D, zs, rfl, hD, by omega, fun ks p pm nd srt hp => ?_⟩
    have s2 := smNew1 hp (.lst (ks.map V.str))
    refine ⟨p, _, rfl, .inl ⟨SqL.of upd_same, fun p2 hp2 => ?_⟩⟩
    refine q ks p2 _ (s1.trans (e.trans (smNew s2 hp2 _))) upd_same (RM.KeysOf.of pm nd srt fun k => ?_)
    rw [hm]
    constructor
    · rintro ⟨i, _, e⟩
      exact List.mem_of_getElem? e
    · intro hk
      obtain ⟨i, hi, e⟩ := List.getElem_of_mem hk
      exact ⟨i, by rw [hl]; rw [List.length_map] at hi; exact hi, by rw [List.getElem?_eq_getElem hi, e]⟩
end
end RM

set_option Elab.async false
set_option linter.all false
set_option maxRecDepth 100000
set_option maxHeartbeats 2000000
namespace RM
open PySem PySem.Spec PyProof.Rows L2
/-! a thing that an expression makes is locked behind it; unlocked behind a statement -/
def tFrz (t : TE) : TE := fun σ H Q => t σ H fun x H1 => ∃ d u, x = .ref d ∧ H1 d = some u ∧ Mut (some u) ∧ ∀ od, Q x (upd H1 d (.frz od u))
def sUnl (X : Cx) (t : L2.TS) : L2.TS := fun D σ H =>
  t ⟨fun σ' H' => ∃ d od u, H' d = some (.frz od u) ∧ (∀ o' u', X.H_0 d ≠ some (.frz o' u')) ∧ D.nx σ' (upd H' d u),
     fun v H' => ∃ d od u, H' d = some (.frz od u) ∧ (∀ o' u', X.H_0 d ≠ some (.frz o' u')) ∧ D.rt v (upd H' d u),
     fun σ' H' => ∃ d od u, H' d = some (.frz od u) ∧ (∀ o' u', X.H_0 d ≠ some (.frz o' u')) ∧ D.bk σ' (upd H' d u),
     fun σ' H' => ∃ d od u, H' d = some (.frz od u) ∧ (∀ o' u', X.H_0 d ≠ some (.frz o' u')) ∧ D.ct σ' (upd H' d u)⟩ σ H
section
variable {X : Cx}
theorem pe_frz {e : Expr} {t : TE} (h : PE X e t) : PE X e (tFrz t) := by
  refine ⟨fun pins s σ H Q I hw => ?_⟩
  refine thn (h.run pins s σ _ _ I hw) fun v s1 ⟨x, H1, I1, r, d, u, ex, hd, mu, q⟩ => ?_
  obtain ⟨od, I2⟩ := I1.lock hd mu
  exact ⟨x, _, I2, r, q od⟩
theorem ps_unl {st : Stmt} {t : L2.TS} (h : PS X st t) : PS X st (sUnl X t) := by
  refine ⟨fun pins s σ H D I hw => ?_⟩
  refine thn (h.run pins s σ _ _ I hw) fun f s1 q => ?_
  cases f with
  | next => obtain ⟨σ', H', I2, d, od, u, e, n, q⟩ := q; exact ⟨σ', _, I2.unlock e n, q⟩
  | brk => obtain ⟨σ', H', I2, d, od, u, e, n, q⟩ := q; exact ⟨σ', _, I2.unlock e n, q⟩
  | cont => obtain ⟨σ', H', I2, d, od, u, e, n, q⟩ := q; exact ⟨σ', _, I2.unlock e n, q⟩
  | ret v => obtain ⟨x, σ', H', I2, r, d, od, u, e, n, q⟩ := q; exact ⟨x, σ', _, I2.unlock e n, r, q⟩
end
end RM

set_option Elab.async false
set_option linter.all false
set_option maxRecDepth 100000
set_option maxHeartbeats 4000000
namespace RM
open PySem PySem.Spec PyProof.Rows L2
/-- the first word of ks that m lacks -/
def lackL (m : WM) (ks : List Str) : Option Str := ks.find? fun k => decide (k ∉ wKeys m)
/-- the first lacking word of a program, then of changes -/
def lackA (m : WM) (ks : List Str) (gs : List WM) : Option Str := (lackL m ks).or (gs.findSome? (lack m))
theorem lackL_at {m : WM} {ks : List Str} {i : Nat} {k : Str} (h : ∀ j ∈ ks.take i, j ∈ wKeys m) (hk : ks[i]? = some k) (hm : k ∉ wKeys m) : lackL m ks = some k := by
  unfold lackL
  have e : ks = ks.take i ++ k :: ks.drop (i + 1) := by
    conv => lhs; rw [← List.take_append_drop (i + 1) ks, take_more hk, List.append_assoc]
    rfl
  rw [e, List.find?_append, List.find?_eq_none.mpr (fun j hj => by simpa using h j hj), List.find?_cons_of_pos (by simpa using hm)]
  rfl
theorem lackL_none {m : WM} {ks : List Str} (h : ∀ j ∈ ks, j ∈ wKeys m) : lackL m ks = none := List.find?_eq_none.mpr fun j hj => by simpa using h j hj
/-- the first item with a number that is none of a change -/
def offI (n : Nat) (it : List Int) : Bool := it.any fun i => !(decide (0 ≤ i) && decide (i < (n : Int)))
def offP (n : Nat) (plan : List (List Int)) : Option Nat := plan.findIdx? (offI n)
theorem offP_at {n : Nat} {plan : List (List Int)} {i : Nat} {it : List Int} (h : ∀ j ∈ plan.take i, offI n j = false) (hk : plan[i]? = some it) (hm : offI n it = true) : offP n plan = some i := by
  unfold offP
  have il := (List.getElem?_eq_some_iff.mp hk)
  rw [List.findIdx?_eq_some_iff_getElem]
  have il1 := il.1
  refine ⟨il.1, by rw [il.2]; exact hm, fun j hj => ?_⟩
  rw [h _ (List.mem_iff_getElem.mpr ⟨j, by rw [List.length_take]; omega, by rw [List.getElem_take]⟩)]
  decide
theorem offP_none {n : Nat} {plan : List (List Int)} (h : ∀ j ∈ plan, offI n j = false) : offP n plan = none := by
  unfold offP
  rw [List.findIdx?_eq_none_iff]
  exact h
section
variable {P : Program} {w : World} {K : PySem.W.Frag} {mg : Str → Option Value} {base : Heap}
def spCheckKeys (K : PySem.W.Frag) : Sp := fun vs H Q E => match vs with
  | [x, y, z] => ∃ a l b m c cas gs, x = .ref a ∧ y = .ref b ∧ z = .ref c ∧ PrgAt K H a l ∧ dB l ≤ 4 ∧ cB l ≤ 1000 ∧ SurAt K H b m ∧ SqA K H c (cas.map V.ref) ∧ Paired (fun x g => ChgAt K H x g) cas gs ∧
    ∀ ks, RM.KeysOf ks ((readsOf l).map (·.2)) → (lackA m ks gs = none → ∀ H', Same H H' → Q .non H') ∧ (∀ k, lackA m ks gs = some k → ∀ d H', Same H H' → H' d = some (.xd [("key", .str k)]) → E (.ref (He.ga K "NoKey")) (some d) H')
  | _ => False
theorem sc_check_keys : FnScope ["program", "surroundings", "changes", "key", "change"] ["program", "surroundings", "changes"] (defScope s_check_keys) := ⟨rfl, rfl, rfl, by decide +kernel, rfl, by decide +kernel, by decide +kernel⟩
theorem c_check_keys (T : Top w K mg) : Cal P w K mg base (L2.CX P w) 8 "check_keys" (spCheckKeys K) := by
  refine cal_X (f_check_keys T) (g_check_keys T) sc_check_keys (fun _ _ _ _ _ _ us hl => match us, hl with | [_, _, _], _ => rfl) (fun vs H Q E h => match vs, h with | [_, _, _], _ => rfl) (fun cdv A outer s H vs Q E hr h => ?_)
  match vs, h with
  | [x, y, z], h =>
  obtain ⟨a, l, b, m, c, cas, gs, rfl, rfl, rfl, pa, hd, hc, sb, hcs, pg, q⟩ := h
  obtain ⟨dx, v, ha, hv⟩ := id pa
  obtain ⟨⟨db, p, hb, hp, okm, sm⟩, l1, l4⟩ := id sb
  refine ⟨_, (pss_cons (ps_for (passes_of rfl) rfl (pi_seqA (pmt0 (c_Program_keys_of T) hr (pv 0))) (pg_name (i := 3) sc_check_keys.nd rfl (Or.inl rfl))
      (pss_one (ps_if (pt_cmpR (op_ninO (E := E0) (o_Surroundings_contains T) (fun _ _ _ _ _ _ _ h => h.elim) hr) (pv 3) (pv 1) rfl)
      (pss_one (ps_raiseX (takes_of rfl rfl rfl rfl) (c_NoKey_init T) hr (pa_cons (pv 3) pa_nil)))
      pss_nil)))
    (pss_one (ps_for (passes_of rfl) rfl (pi_seqA (pv 2)) (pg_name (i := 4) sc_check_keys.nd rfl (Or.inl rfl))
      (pss_one (ps_unl (ps_for (passes_of rfl) rfl (pi_keys (pe_frz (pmt0 (c_Change_settings T) hr (pv 4)))) (pg_name (i := 3) sc_check_keys.nd rfl (Or.inl rfl))
      (pss_one (ps_if (pt_cmpR (op_ninO (E := E0) (o_Surroundings_contains T) (fun _ _ _ _ _ _ _ h => h.elim) hr) (pv 3) (pv 1) rfl)
      (pss_one (ps_raiseX (takes_unl (takes_of rfl rfl rfl rfl)) (c_NoKey_init T) hr (pa_cons (pv 3) pa_nil)))
      pss_nil)))))))), ?_⟩
  refine ⟨_, rfl, a, dx, _, rfl, ha, rfl, a, l, rfl, pa, hd, hc, fun ks t H1 e1 ht hks => ?_⟩
  obtain ⟨q1, q2⟩ := q ks hks
  refine seqA_of (.inr (SqT.of ht)) (Same.refl _) fun J wk => ?_
  refine for_it wk (fun i σ H' => Same H1 H' ∧ (∀ k ∈ ks.take i, k ∈ wKeys m) ∧ ∃ v3, σ = [some (.ref a), some (.ref b), some (.ref c), v3, none]) ⟨Same.refl _, fun k hk => by simp at hk, _, rfl⟩ (fun _ _ _ _ h => h.1) ?_ ?_
  · rintro i x σ H2 H3 hi ⟨e2, hk, v3, rfl⟩ ⟨rfl, hx⟩
    rw [List.getElem?_map] at hx
    obtain ⟨k, hk1, rfl⟩ := Option.map_eq_some_iff.mp hx
    have e12 := e1.trans e2
    refine ⟨_, rfl, _, rfl, b, db, _, rfl, e12 _ _ hb, ⟨b, m, k, rfl, rfl, sb.keep e12, _, rfl, _, rfl, ?_⟩⟩
    by_cases hm : k ∈ wKeys m
    · refine ifF (by rw [decide_eq_true hm]; rfl) ⟨e2, fun j hj => ?_, _, rfl⟩
      rw [take_more hk1] at hj
      rcases List.mem_append.mp hj with h | h
      · exact hk j h
      · rw [List.mem_singleton.mp h]; exact hm
    · refine ifT (by rw [decide_eq_false hm]; rfl) ⟨_, rfl, ?_⟩
      exact raise1 fun d H' _ e' hd => q2 k (by unfold lackA; rw [lackL_at hk hk1 hm]; rfl) d H' (e12.trans e') hd
  rintro σ H2 ⟨e2, hk, v3, rfl⟩
  rw [List.length_map, List.take_length] at hk
  have e12 := e1.trans e2
  have nl : lackA m ks gs = gs.findSome? (lack m) := by unfold lackA; rw [lackL_none hk]; rfl
  rw [nl] at q1 q2
  refine ⟨_, rfl, ?_⟩
  refine seqA_of ((sqA_sm e12 hcs)) (Same.refl _) fun J2 wk2 => ?_
  refine for_it wk2 (fun i σ H' => Same H2 H' ∧ (∀ g ∈ gs.take i, lack m g = none) ∧ ∃ v3 v4, σ = [some (.ref a), some (.ref b), some (.ref c), v3, v4]) ⟨Same.refl _, fun k hk => by simp at hk, _, _, rfl⟩ (fun _ _ _ _ h => h.1) ?_ ?_
  · rintro i x σ H3 H4 hi ⟨e3, hk, v3, v4, rfl⟩ ⟨rfl, hx⟩
    rw [List.getElem?_map] at hx
    obtain ⟨y, hy, rfl⟩ := Option.map_eq_some_iff.mp hx
    obtain ⟨g, hg, cg⟩ := paired_at pg hy
    have e13 := e12.trans e3
    obtain ⟨⟨dy, p2, hc2, hp2, okg, sg⟩, lg⟩ := id (cg.keep e13)
    refine ⟨_, rfl, y, dy, _, rfl, hc2, rfl, y, g, rfl, cg.keep e13, fun r H5 e5 nr hr5 => ?_⟩
    have e15 := e13.trans e5
    refine ⟨r, .dK (mK g), rfl, hr5, trivial, fun od => ?_⟩
    have lgK : (mK g).length = g.length := List.length_map ..
    have rn : ∀ {b o}, H4 b = some o → b ≠ r := fun h => ne_of_none h nr
    refine ⟨r, od, rfl, .inl ⟨mK g, upd_same, for_it walk_keys (fun i σ H' => H' = upd H5 r (.frz od (.dK (mK g))) ∧ (∀ k ∈ wKeys (g.take i), k ∈ wKeys m) ∧ ∃ v3 v4, σ = [some (.ref a), some (.ref b), some (.ref c), v3, v4])
      ⟨rfl, fun k hk => by simp [wKeys] at hk, _, _, rfl⟩ (fun i σ H' _ h => by rw [h.1]; exact upd_same) ?_ ?_⟩⟩
    · rintro i2 x2 σ H6 H7 hi2 ⟨rfl, hk2, w3, w4, rfl⟩ ⟨rfl, k, v2, hkv, rfl⟩
      obtain ⟨z, hz, rfl, rfl⟩ := mK_get hkv
      have sb6 : SurAt K (upd H5 r (.frz od (.dK (mK g)))) b m := by
        refine ⟨⟨db, p, ?_, ?_, okm, sm⟩, l1, l4⟩
        · rw [upd_ne (rn (e13 _ _ hb))]; exact e15 _ _ hb
        · rw [upd_ne (rn (e13 _ _ hp))]; exact e15 _ _ hp
      have tk : wKeys (g.take (i2 + 1)) = wKeys (g.take i2) ++ [z.1] := by
        unfold wKeys
        rw [List.take_add_one, hz, List.map_append]
        rfl
      refine ⟨_, rfl, _, rfl, b, db, _, rfl, by rw [upd_ne (rn (e13 _ _ hb))]; exact e15 _ _ hb, ⟨b, m, z.1, rfl, rfl, sb6, _, rfl, _, rfl, ?_⟩⟩
      by_cases hm : z.1 ∈ wKeys m
      · refine ifF (by rw [decide_eq_true hm]; rfl) ⟨rfl, fun j hj => ?_, _, _, rfl⟩
        rw [tk] at hj
        rcases List.mem_append.mp hj with h | h
        · exact hk2 j h
        · rw [List.mem_singleton.mp h]; exact hm
      · refine ifT (by rw [decide_eq_false hm]; rfl) ⟨_, rfl, ?_⟩
        refine raise1U fun d H' nd e hd => ?_
        have np : d ≠ r := fun z => by rw [z, upd_same] at nd; cases nd
        refine ⟨r, od, .dK (mK g), e _ _ upd_same, fun o' u' z => ?_, q2 z.1 ?_ d _ (e15.trans (same_back hr5 e)) (by rw [upd_ne np]; exact hd)⟩
        · exact (by have z' : H r = some (.frz o' u') := z; rw [(e13.free nr)] at z'; cases z')
        · rw [first_some hg ?_ ?_]
          · have il := (List.getElem?_eq_some_iff.mp hz).1
            have kz : (wKeys g)[i2]? = some z.1 := by unfold wKeys; rw [List.getElem?_map, hz]; rfl
            exact lackL_at (ks := wKeys g) (fun j hj => hk2 j (by unfold wKeys at hj ⊢; rw [List.map_take]; exact hj)) kz hm
          · intro j g' hj hg'
            exact hk g' (List.mem_of_getElem? (by rw [List.getElem?_take, if_pos hj]; exact hg'))
    · rintro σ H6 ⟨rfl, hk2, w3, w4, rfl⟩
      refine ⟨r, od, .dK (mK g), upd_same, fun o' u' z => (by have z' : H r = some (.frz o' u') := z; rw [(e13.free nr)] at z'; cases z'), ?_⟩
      rw [upd_back hr5]
      rw [lgK, List.take_length] at hk2
      refine ⟨e3.trans e5, fun g' hg' => ?_, _, _, rfl⟩
      rw [take_more hg] at hg'
      rcases List.mem_append.mp hg' with h | h
      · exact hk g' h
      · rw [List.mem_singleton.mp h]
        exact List.find?_eq_none.mpr fun k hk' => by simpa using hk2 k hk'
  · rintro σ H3 ⟨e3, hk, v3', v4, rfl⟩
    refine q1 ?_ _ (e12.trans e3)
    rw [List.length_map, pg.length, List.take_length] at hk
    exact List.findSome?_eq_none_iff.mpr hk
/-! ### BadSchedule -/
theorem sc_BadSchedule_init : FnScope ["self", "item"] ["self", "item"] (defScope s_BadSchedule_init) := ⟨rfl, rfl, rfl, by decide +kernel, rfl, by decide +kernel, by decide +kernel⟩
theorem c_BadSchedule_init (T : Top w K mg) : Exo P w K mg base 1 "BadSchedule" (He.ga K "BadSchedule") (spExo (He.ga K "BadSchedule") "item") := by
  refine exo_0 (f_BadSchedule_init T) (oexB_ok (oex_BadSchedule T)) (me_BadSchedule_init T) (g_BadSchedule T) sc_BadSchedule_init (fun _ _ _ _ _ _ us hl => match us, hl with | [_, _], _ => rfl) (fun vs H Q E h => match vs, h with | [_, _], _ => rfl) (fun cdv A outer s H vs Q E hr h => ?_)
  match vs, h with
  | [x, v], h =>
  obtain ⟨a, rfl, ha, q⟩ := h
  refine ⟨_, (pss_one (ps_ost (pv 0) (pv 1))), ?_⟩
  exact ⟨_, rfl, _, rfl, a, _, rfl, oexB_ok (oex_BadSchedule T), na_BadSchedule_item T, .inl ⟨ha, fun dx h1 h2 => q dx h1 h2⟩⟩
def spCheckSched (K : PySem.W.Frag) : Sp := fun vs H Q E => match vs with
  | [x, y] => ∃ c xs p its plan, x = .ref c ∧ y = .ref p ∧ SqA K H c xs ∧ SqA K H p (its.map V.ref) ∧ Paired (fun a ns => SqA K H a (ns.map V.int)) its plan ∧
    (offP xs.length plan = none → ∀ H', Same H H' → Q .non H') ∧ (∀ i : Nat, offP xs.length plan = some i → ∀ d H', Same H H' → H' d = some (.xd [("item", .int (i : Int))]) → E (.ref (He.ga K "BadSchedule")) (some d) H')
  | _ => False
theorem sc_check_schedule : FnScope ["changes", "schedule", "item", "numbers", "number"] ["changes", "schedule"] (defScope s_check_schedule) := ⟨rfl, rfl, rfl, by decide +kernel, rfl, by decide +kernel, by decide +kernel⟩
theorem c_check_schedule (T : Top w K mg) : Cal P w K mg base (L2.CX P w) 3 "check_schedule" (spCheckSched K) := by
  refine cal_X (f_check_schedule T) (g_check_schedule T) sc_check_schedule (fun _ _ _ _ _ _ us hl => match us, hl with | [_, _], _ => rfl) (fun vs H Q E h => match vs, h with | [_, _], _ => rfl) (fun cdv A outer s H vs Q E hr h => ?_)
  match vs, h with
  | [x, y], h =>
  obtain ⟨c, xs, p, its, plan, rfl, rfl, hc, hp, pp, q1, q2⟩ := h
  refine ⟨_, (pss_one (ps_for (passes_of rfl) rfl (pi_enumA (by rfl) (z_enumerate T) (pa_cons (pv 1) pa_nil)) (pg_tup rfl (pgs_cons (pg_name (i := 2) sc_check_schedule.nd rfl (Or.inl rfl)) (pgs_cons (pg_name (i := 3) sc_check_schedule.nd rfl (Or.inl rfl)) pgs_nil)))
      (pss_one (ps_for (passes_of rfl) rfl (pi_seqA (pv 3)) (pg_name (i := 4) sc_check_schedule.nd rfl (Or.inl rfl))
      (pss_one (ps_if (pt_not (pt_chain op_le op_lt pe_int (pv 4) (pcb (z_len T) call_len_seq boot_len (pa_cons (pv 0) pa_nil))))
      (pss_one (ps_raiseX (takes_of rfl rfl rfl rfl) (c_BadSchedule_init T) hr (pa_cons (pv 2) pa_nil)))
      pss_nil)))))), ?_⟩
  refine ⟨_, rfl, enumA_of hp (Same.refl _) fun J wk => ?_⟩
  refine for_it wk (fun i σ H' => Same H H' ∧ (∀ it ∈ plan.take i, offI xs.length it = false) ∧ ∃ v3 v4 v5, σ = [some (.ref c), some (.ref p), v3, v4, v5]) ⟨Same.refl _, fun k hk => by simp at hk, _, _, _, rfl⟩ (fun _ _ _ _ h => h.1) ?_ ?_
  · rintro i x σ H1 H2 hi ⟨e1, hk, v3, v4, v5, rfl⟩ ⟨t, y, z, rfl, ht, rfl, hy, hz⟩
    obtain rfl : V.int (i : Nat) = y := Option.some.inj hy
    replace hz : (its.map V.ref)[i]? = some z := hz
    rw [List.getElem?_map] at hz
    obtain ⟨ia, hia, rfl⟩ := Option.map_eq_some_iff.mp hz
    obtain ⟨it, hit, sit⟩ := paired_at pp hia
    have e2 := smNew e1 ht (.tup [.int (i : Nat), .ref ia])
    refine ⟨t, _, rfl, SqT.of upd_same, rfl, _, _, rfl, _, _, rfl, rfl, ?_⟩
    refine ⟨_, rfl, seqA_of (sqA_sm e2 sit) (Same.refl _) fun J2 wk2 => ?_⟩
    refine for_it wk2 (fun j σ H' => Same (upd H1 t (.tup [.int (i : Nat), .ref ia])) H' ∧ (∀ n ∈ it.take j, 0 ≤ n ∧ n < (xs.length : Int)) ∧ ∃ v5, σ = [some (.ref c), some (.ref p), some (.int (i : Nat)), some (.ref ia), v5]) ⟨Same.refl _, fun k hk => by simp at hk, _, rfl⟩ (fun _ _ _ _ h => h.1) ?_ ?_
    · rintro j x2 σ H3 H4 hj ⟨e3, hk3, w5, rfl⟩ ⟨rfl, hx2⟩
      rw [List.getElem?_map] at hx2
      obtain ⟨n, hn, rfl⟩ := Option.map_eq_some_iff.mp hx2
      have e13 := e2.trans e3
      have bad : ¬ (0 ≤ n ∧ n < (xs.length : Int)) → (∀ d H', Same H4 H' → H' d = some (.xd [("item", .int (i : Int))]) → E (.ref (He.ga K "BadSchedule")) (some d) H') := fun hb d H' e' hd => by
        refine q2 i ?_ d H' (e13.trans e') hd
        refine offP_at hk hit (List.any_eq_true.mpr ⟨n, List.mem_of_getElem? hn, ?_⟩)
        by_cases h0 : 0 ≤ n
        · have h1 : ¬ n < (xs.length : Int) := fun z => hb ⟨h0, z⟩
          rw [decide_eq_true h0, decide_eq_false h1]
          rfl
        · rw [decide_eq_false h0]
          rfl
      refine ⟨_, rfl, _, _, rfl, rfl, _, rfl, ?_⟩
      by_cases h0 : 0 ≤ n
      · rw [decide_eq_true h0]
        refine iteT ⟨_, rfl, c, xs, rfl, sqA_sm e13 hc, _, _, rfl, rfl, _, rfl, ?_⟩
        by_cases h1 : n < (xs.length : Int)
        · rw [decide_eq_true h1]
          refine ifF rfl ⟨e3, fun z hz => ?_, _, rfl⟩
          rw [take_more hn] at hz
          rcases List.mem_append.mp hz with h | h
          · exact hk3 z h
          · rw [List.mem_singleton.mp h]; exact ⟨h0, h1⟩
        · rw [decide_eq_false h1]
          refine ifT rfl ⟨_, rfl, ?_⟩
          exact raise1 fun d H' _ e' hd => bad (fun z => h1 z.2) d H' e' hd
      · rw [decide_eq_false h0]
        refine iteF ⟨_, rfl, ifT rfl ⟨_, rfl, ?_⟩⟩
        exact raise1 fun d H' _ e' hd => bad (fun z => h0 z.1) d H' e' hd
    · rintro σ H3 ⟨e3, hk3, w5, rfl⟩
      refine ⟨e2.trans e3, fun it' hit' => ?_, _, _, _, rfl⟩
      rw [List.length_map, List.take_length] at hk3
      rw [take_more hit] at hit'
      rcases List.mem_append.mp hit' with h | h
      · exact hk it' h
      · rw [List.mem_singleton.mp h]
        refine List.any_eq_false.mpr fun n hn => ?_
        rw [decide_eq_true (hk3 n hn).1, decide_eq_true (hk3 n hn).2]
        decide
  · rintro σ H1 ⟨e1, hk, v3, v4, v5, rfl⟩
    rw [List.length_map, pp.length, List.take_length] at hk
    exact q1 (offP_none hk) _ e1
end
end RM

set_option Elab.async false
set_option linter.all false
set_option maxRecDepth 100000
set_option maxHeartbeats 4000000
set_option pp.maxSteps 600
set_option pp.deepTerms false
namespace RM
open PySem PySem.Spec PyProof.Rows L2
theorem upd_eq {H : Hp} {a : Addr} {o : HO} (h : H a = some o) : upd H a o = H := by
  funext b
  by_cases e : b = a
  · rw [e, upd_same, h]
  · rw [upd_ne e]
section
variable {P : Program} {w : World} {K : PySem.W.Frag} {mg : Str → Option Value} {base : Heap}
/-! ### value_of -/
def spVal (K : PySem.W.Frag) : Sp := fun vs H Q _ => match vs with
  | [x, y] => ∃ H0 A s z, x = .ref A.r ∧ y = .str z ∧ RunAt K H0 H A s ∧ Q (.int (vOf s z)) H
  | _ => False
theorem sc_Runner_value_of : FnScope ["self", "name"] ["self", "name"] (defScope s_Runner_value_of) := ⟨rfl, rfl, rfl, by decide +kernel, rfl, by decide +kernel, by decide +kernel⟩
theorem c_Runner_value_of (T : Top w K mg) : Met P w K mg base CX0 1 (He.ga K "Runner") "value_of" (spVal K) := by
  refine met_0 (f_Runner_value_of T) (k_Runner T) (me_Runner_value_of T) sc_Runner_value_of (fun _ _ _ _ _ _ us hl => match us, hl with | [_, _], _ => rfl) (fun vs H Q E h => match vs, h with | [_, _], _ => rfl) (fun cdv A outer s H vs Q E hr h => ?_)
  match vs, h with
  | [x, y], h =>
  obtain ⟨H0, A, s, z, rfl, rfl, ⟨W, R⟩, q⟩ := h
  refine ⟨_, (pss_one (ps_ret (pe_dget2 (hu_of hr) (pe_fld (pv 0) rfl) (pv 1) pe_int (M2.mk rfl rfl rfl rfl)))), ?_⟩
  refine ⟨_, rfl, A.r, _, W.dr, _, _, rfl, R.r, k_Runner T, na_Runner_held T, rfl, A.hd, rfl, .inl ⟨_, .of R.held⟩, _, rfl, (wGet s.held z).map V.int, .inl ⟨mK s.held, .inr z, .of R.held, rfl, (valV_get _ _).symm⟩, ?_⟩
  have e : ((wGet s.held z).map V.int).getD (.int 0) = .int (vOf s z) := by
    unfold vOf
    cases wGet s.held z <;> rfl
  rw [e]
  exact q
/-! ### wait -/
def spWait (K : PySem.W.Frag) : Sp := fun vs H Q _ => match vs with
  | [x] => ∃ H0 A e ks s, x = .ref A.r ∧ RunAt K H0 H A s ∧ EnvAt K H0 A e ks ∧ ROk e ks s ∧ ∀ H', RunAt K H0 H' A (waitS e s) → ROk e ks (waitS e s) → TS K H H' → Q .non H'
  | _ => False
theorem sc_Runner_wait : FnScope ["self", "number"] ["self"] (defScope s_Runner_wait) := ⟨rfl, rfl, rfl, by decide +kernel, rfl, by decide +kernel, by decide +kernel⟩
theorem c_Runner_wait (T : Top w K mg) : Met P w K mg base CX0 6 (He.ga K "Runner") "wait" (spWait K) := by
  refine met_0 (f_Runner_wait T) (k_Runner T) (me_Runner_wait T) sc_Runner_wait (fun _ _ _ _ _ _ us hl => match us, hl with | [_], _ => rfl) (fun vs H Q E h => match vs, h with | [_], _ => rfl) (fun cdv A outer s H vs Q E hr h => ?_)
  match vs, h with
  | [x], h =>
  obtain ⟨H0, A, e, ks, s, rfl, ⟨W, R⟩, V, k, q⟩ := h
  refine ⟨_, (pss_cons (ps_mid (ps_if (pt_cmpR op_lt (pe_fld (pe_fld (pv 0) rfl) rfl) (pcb (z_len T) call_len_seq boot_len (pa_cons (pe_fld (pv 0) rfl) pa_nil)) (nomark _))
      (pss_one (ps_for PassesOwn.never rfl (pi_seqA (pe_ix ix_any (pe_fld (pv 0) rfl) (pe_fld (pe_fld (pv 0) rfl) rfl) (fun _ _ => rfl))) (pg_name (i := 1) sc_Runner_wait.nd rfl (Or.inl rfl))
      (pss_cons (ps_fldaug (pv 0) (pe_ix ix_any (pe_fld (pv 0) rfl) (pv 1) (fun _ _ => rfl)) (in_addO (E := E0) (o_Surroundings_iadd T).calm (two_first (two_Surroundings_Change T)).1 (fun _ _ _ _ _ _ _ h => h.elim) hr))
    (pss_one (ps_expr (pe_bm PySem.F.plainAttrs_list PySem.F.slot_list_append PySem.F.type_list_append mt_append (pe_fld (pe_fld (pv 0) rfl) rfl) (pa_cons (pmt0 (c_Surroundings_state T) hr (pe_fld (pv 0) rfl)) pa_nil)))))))
      pss_nil))
    (pss_one (ps_fldaug (pe_fld (pv 0) rfl) pe_int in_add))), ?_⟩
  obtain ⟨its, hp, pp⟩ := V.pn
  obtain ⟨t, et⟩ : ∃ t, t = (itemAt e s).foldl (stepW e.cs) s := ⟨_, rfl⟩
  have lits : its.length = e.plan.length := pp.length
  refine ⟨fun σ' H' => (∃ v1, σ' = [some (.ref A.r), v1]) ∧ RunAt K H0 H' A t ∧ TS K H H', ?_, ?_⟩
  · refine ⟨_, rfl, A.r, _, W.dr, _, _, rfl, R.r, k_Runner T, na_Runner_outcome T, rfl, A.oc, _, W.dq, _, _, rfl, R.oc, k_Outcome T, na_Outcome_waits T, rfl, ?_⟩
    refine ⟨_, rfl, A.r, _, W.dr, _, _, rfl, R.r, k_Runner T, na_Runner_plan T, rfl, A.pn, _, rfl, sqA_sm R.sm hp, _, _, rfl, rfl, _, rfl, ?_⟩
    rw [List.length_map]
    refine ifB (fun hc => ?_) (fun hc => ?_)
    · have hlt : s.waits < its.length := by have := of_decide_eq_true hc; omega
      obtain ⟨ia, hia⟩ : ∃ ia, its[s.waits]? = some ia := ⟨_, List.getElem?_eq_getElem hlt⟩
      obtain ⟨it, hit, sit⟩ := paired_at pp hia
      have eit : itemAt e s = it := by unfold itemAt; rw [hit]; rfl
      rw [eit] at et
      have hi := List.mem_of_getElem? hit
      refine ⟨_, rfl, A.r, _, W.dr, _, _, rfl, R.r, k_Runner T, na_Runner_plan T, rfl, _, rfl, A.r, _, W.dr, _, _, rfl, R.r, k_Runner T, na_Runner_outcome T, rfl, A.oc, _, W.dq, _, _, rfl, R.oc, k_Outcome T, na_Outcome_waits T, rfl, ?_⟩
      refine ⟨A.pn, _, _, .ref ia, rfl, rfl, sqA_sm R.sm hp, atI_nat (by rw [List.getElem?_map, hia]; rfl), ?_⟩
      refine seqA_of sit R.sm fun J wk => ?_
      refine for_it wk (fun i σ' H' => (∃ v1, σ' = [some (.ref A.r), v1]) ∧ RunAt K H0 H' A ((it.take i).foldl (stepW e.cs) s) ∧ TS K H H') ⟨⟨_, rfl⟩, ⟨W, R⟩, fun _ _ h => h⟩ (fun _ _ _ _ h => let ⟨_, ⟨_, R⟩, _⟩ := h; R.sm) ?_ ?_
      · rintro i x σ H1 H2 hi2 ⟨⟨v1, rfl⟩, ⟨W1, R1⟩, ts⟩ ⟨rfl, hx⟩
        rw [List.getElem?_map] at hx
        obtain ⟨n, hn, rfl⟩ := Option.map_eq_some_iff.mp hx
        obtain ⟨g, hg, eg, og, sub⟩ := chg_at V.ok hi (List.mem_of_getElem? hn)
        obtain ⟨o1, o2⟩ := fold_ok V.ok hi k.now k.keys (jt := it.take i) fun _ h => List.mem_of_mem_take h
        have k1 : ROk ⟨e.cs, []⟩ ks ((it.take i).foldl (stepW e.cs) s) := ⟨o1, o2, by rw [fold_went]; have := k.one; omega, by
          show _ + ([].drop _ : List (List Int)).flatten.length ≤ 1000
          rw [List.drop_nil, fold_went]
          have := k.room
          rw [drop_item hit, List.length_append] at this
          have l2 : (it.take i).length ≤ it.length := by rw [List.length_take]; omega
          show _ + 0 ≤ 1000
          omega⟩
        have E1 : EOk ⟨e.cs, []⟩ ks := ⟨V.ok.cs, fun _ h => by simp at h, V.ok.srt, V.ok.l1, V.ok.l4⟩
        have lw : ((it.take i).foldl (stepW e.cs) s).went.length < 1000 := by
          rw [fold_went]
          have := k.room
          rw [drop_item hit, List.length_append] at this
          have il := (List.getElem?_eq_some_iff.mp hn).1
          rw [List.length_take]
          omega
        have ft := fold_take (cs := e.cs) hn s
        obtain ⟨u, eu⟩ : ∃ u, u = (it.take i).foldl (stepW e.cs) s := ⟨_, rfl⟩
        rw [← eu] at k1 R1 lw ft o1 o2
        obtain ⟨cas, hcs, pcs⟩ := V.ch
        have nr := V.ok.plan it hi n (List.mem_of_getElem? hn)
        have lcs : cas.length = e.cs.length := pcs.length
        obtain ⟨nn, rfl⟩ : ∃ nn : Nat, n = nn := ⟨n.toNat, by omega⟩
        obtain ⟨ca, hca⟩ : ∃ ca, cas[nn]? = some ca := ⟨_, List.getElem?_eq_getElem (by omega)⟩
        obtain ⟨g', hg', cg⟩ := paired_at pcs hca
        have : g' = g := by
          rw [Int.toNat_natCast, hg'] at hg
          exact Option.some.inj hg
        subst this
        have nl : lack u.now g' = none := List.find?_eq_none.mpr fun z hz => by simpa using (show z ∈ wKeys u.now by rw [o2]; exact sub z hz)
        -- self.place += self.choices[number]
        refine ⟨_, rfl, A.r, _, W1.dr, _, _, rfl, R1.r, k_Runner T, na_Runner_place T, rfl, _, rfl, A.r, _, W1.dr, _, _, rfl, R1.r, k_Runner T, na_Runner_choices T, rfl, _, rfl, ?_⟩
        refine ⟨A.ch, _, _, .ref ca, rfl, rfl, sqA_sm R1.sm hcs, atI_nat (by rw [List.getElem?_map, hca]; rfl), ?_⟩
        refine ⟨A.pl, W1.dp, _, rfl, R1.pl, A.pl, ca, u.now, g', rfl, rfl, R1.sur k1 E1, cg.keep R1.sm, fun _ dx p0 p H3 hpl e3 np hp3 => ?_, fun z hz => by rw [nl] at hz; cases hz⟩
        have ed : dx = W1.dp := by
          rw [R1.pl] at hpl
          injection hpl with h1
          injection h1 with _ h2 _
          exact h2.symm
        subst ed
        have nph : p ≠ A.hd := (ne_of_none R1.held np).symm
        have R3 := (R1.keep e3).upNow p _ hp3 nph
        have ts3 : TS K H2 (upd H3 A.pl (.ins (He.ga K "Surroundings") W1.dp [("now", .ref p)])) := fun a xs h => ts_upd (K := K) _ (e3 _ _ R1.pl) trivial a xs (smT e3 h)
        obtain ⟨H4, eH4⟩ : ∃ H4, H4 = upd H3 A.pl (.ins (He.ga K "Surroundings") W1.dp [("now", .ref p)]) := ⟨_, rfl⟩
        rw [← eH4] at R3 ts3 ⊢
        refine ⟨W1.dr, _, R3.r, (by show 6 < 1000; decide), ?_⟩
        have same : upd H4 A.r (.ins (He.ga K "Runner") W1.dr (putF "place" (.ref A.pl) [("place", .ref A.pl), ("choices", .ref A.ch), ("plan", .ref A.pn), ("held", .ref A.hd), ("outcome", .ref A.oc), ("stopped", .bl u.stop)])) = H4 := upd_eq R3.r
        rw [same]
        -- self.outcome.went.append(self.place.state())
        refine ⟨_, rfl, A.r, _, W1.dr, _, _, rfl, R3.r, k_Runner T, na_Runner_outcome T, rfl, A.oc, _, W1.dq, _, _, rfl, R3.oc, k_Outcome T, na_Outcome_went T, rfl, .inl ⟨rfl, _, SqL.of R3.wl⟩, ?_⟩
        have k3 : ROk ⟨e.cs, []⟩ ks { u with now := wOver u.now g' } := ⟨okM_over o1 og.1, by show wKeys (wOver u.now g') = ks; rw [wKeys_over (by rw [o2]; exact sub), o2], k1.one, k1.room⟩
        have s3 := R3.sur k3 E1
        refine ⟨_, rfl, A.r, _, W1.dr, _, _, rfl, R3.r, k_Runner T, na_Runner_place T, rfl, A.pl, W1.dp, _, rfl, R3.pl, rfl, A.pl, _, rfl, s3.1, s3.2.2, fun t5 H5 e5 ht5 => ?_⟩
        have R5 := R3.keep e5
        have hst : Dp K H5 (.ref t5) (stD (wVals (wOver u.now g'))) := st_dp (SqT.of (by rw [ht5]; unfold wVals; rw [List.map_map]; rfl))
        have lws : W1.ws.length = u.went.length := by have := DpAll.len R1.dw; rw [List.length_map] at this; exact this
        refine ⟨A.wl, _, .ref t5, rfl, rfl, R5.wl, small1000 (by show W1.ws.length ≤ 1000; omega), ⟨_, rfl⟩, ?_, ?_⟩
        · rw [ft]
          have R6 := R5.upWent (.ref t5) _ hst
          have es : stepW e.cs u nn = { u with now := wOver u.now g', went := u.went ++ [wVals (wOver u.now g')] } := by
            unfold stepW
            rw [eg]
          rw [es]
          exact ⟨_, R6⟩
        · exact fun a xs h => ts_upd (K := K) _ R5.wl trivial a xs (smT e5 (ts3 a xs (ts a xs h)))
      · rintro σ H1 ⟨⟨v1, rfl⟩, R1, ts⟩
        rw [List.length_map, List.take_length, ← et] at R1
        exact ⟨⟨_, rfl⟩, R1, ts⟩
    · have hge : e.plan.length ≤ s.waits := by have := of_decide_eq_false hc; omega
      have eit : itemAt e s = [] := by unfold itemAt; rw [List.getElem?_eq_none hge]; rfl
      rw [eit] at et
      rw [et]
      exact ⟨⟨_, rfl⟩, ⟨W, R⟩, fun _ _ h => h⟩
  · rintro σ H1 ⟨⟨v1, rfl⟩, ⟨W1, R1⟩, ts⟩
    refine ⟨_, rfl, A.r, _, W1.dr, _, _, rfl, R1.r, k_Runner T, na_Runner_outcome T, rfl, A.oc, _, W1.dq, _, _, rfl, R1.oc, k_Outcome T, na_Outcome_waits T, rfl, _, _, rfl, rfl, W1.dq, _, R1.oc, (by show 5 < 1000; decide), ?_⟩
    have R2 := R1.upOut W1.pt t.printed (t.waits + 1) R1.pt
    have ew : waitS e s = { t with printed := t.printed, waits := t.waits + 1 } := by rw [et]; rfl
    refine q _ ?_ (k.wait V.ok) ?_
    · rw [ew]
      exact ⟨_, R2⟩
    · exact fun a xs h => (ts_upd (K := K) _ R1.oc trivial) a xs (ts a xs h)
end
end RM

set_option Elab.async false
set_option linter.all false
set_option maxRecDepth 100000
set_option maxHeartbeats 4000000
set_option pp.maxSteps 900
set_option pp.deepTerms false
namespace RM
open PySem PySem.Spec PyProof.Rows L2
theorem small6 {n : Nat} (h : n ≤ 6000) : n < sizeLine := by unfold sizeLine; omega
theorem kB_mem {ks : List Str} : ∀ {l : List Stm}, kB ks l = true → ∀ {s : Stm}, s ∈ l → kS ks s = true
  | [], _, s, h => by simp at h
  | t :: r, w, s, h => by
    rw [kB, Bool.and_eq_true] at w
    rcases List.mem_cons.mp h with rfl | h
    · exact w.1
    · exact kB_mem w.2 h
section
variable {P : Program} {w : World} {K : PySem.W.Frag} {mg : Str → Option Value} {base : Heap}
def spExec (K : PySem.W.Frag) (n : Nat) : Sp := fun vs H Q _ => match vs with
  | [x, b, p] => ∃ H0 A e ks s l pth, x = .ref A.r ∧ RunAt K H0 H A s ∧ EnvAt K H0 A e ks ∧ ROk e ks s ∧ Dp K H0 b (.tuple (encB false l)) ∧ Dp K H p (pathD pth) ∧ dB l ≤ n ∧ kB ks l = true ∧ wB l = true ∧
    sz s + 2 * nB l ≤ 5000 ∧ pth.length + 2 * n ≤ 900 ∧ ∀ H', RunAt K H0 H' A (goB e pth 0 l s) → ROk e ks (goB e pth 0 l s) → TS K H H' → Q .non H'
  | _ => False
def spStmt (K : PySem.W.Frag) (n : Nat) : Sp := fun vs H Q _ => match vs with
  | [x, o, p] => ∃ H0 A e ks s st pth, x = .ref A.r ∧ RunAt K H0 H A s ∧ EnvAt K H0 A e ks ∧ ROk e ks s ∧ Dp K H0 o (encS false st) ∧ Dp K H p (pathD pth) ∧ dS st ≤ n ∧ kS ks st = true ∧ wS st = true ∧
    sz s + 2 * nS st ≤ 5000 ∧ pth.length + 2 * n + 1 ≤ 900 ∧ ∀ H', RunAt K H0 H' A (goS e pth st s) → ROk e ks (goS e pth st s) → TS K H H' → Q .non H'
  | _ => False
def spBranch (K : PySem.W.Frag) (n : Nat) : Sp := fun vs H Q _ => match vs with
  | [x, o, p, t] => ∃ H0 A e ks s pth c wd f1 f2 a b, x = .ref A.r ∧ t = .bl c ∧ RunAt K H0 H A s ∧ EnvAt K H0 A e ks ∧ ROk e ks s ∧ Dp K H0 o (.tuple [wd, f1, f2, .tuple (encB false a), .tuple (encB false b)]) ∧ Dp K H p (pathD pth) ∧
    dB a ≤ n ∧ dB b ≤ n ∧ kB ks a = true ∧ kB ks b = true ∧ wB a = true ∧ wB b = true ∧ sz s + 2 * nB a ≤ 5000 ∧ sz s + 2 * nB b ≤ 5000 ∧ pth.length + 2 * n + 1 ≤ 900 ∧
    ∀ H', RunAt K H0 H' A (if c = true then goB e (pth ++ [0]) 0 a s else goB e (pth ++ [1]) 0 b s) → ROk e ks (if c = true then goB e (pth ++ [0]) 0 a s else goB e (pth ++ [1]) 0 b s) → TS K H H' → Q .non H'
  | _ => False
theorem met_never {C : Addr} {m qual : Str} {st : Stmt} {f : Addr} {ps : List Str} {sp : Sp} {k : Nat} (F : ∃ fd, FunD K m qual (defArgs st) (defBody st) (defScope st) [] [] f fd) (c : Cls K C) (me : Meth K C m f)
    (hb : ∀ (kV doc pm : Value) (an : Option Addr) (cdv ct : Value) (us : List Value), us.length = ps.length → bindArgs (PySem.W.fnOf m qual (defArgs st) (defBody st) (defScope st) .none kV doc pm an cdv ct) ⟨us, []⟩ = pure (ps.zip us))
    (no : ∀ vs H Q E, ¬ sp vs H Q E) : Met P w K mg base CX0 k C m sp :=
  let ⟨fd, F⟩ := F
  ⟨f, fd, ps, c, me, ⟨fun vs H Q E h => absurd h (no vs H Q E), fun A outer s H args us vs Q E _ _ _ _ h => absurd h (no vs H Q E)⟩, F.bindsN hb⟩
theorem sc_Runner_branch : FnScope ["self", "statement", "path", "test", "number"] ["self", "statement", "path", "test"] (defScope s_Runner_branch) := ⟨rfl, rfl, rfl, by decide +kernel, rfl, by decide +kernel, by decide +kernel⟩
theorem ok_branch (T : Top w K mg) {n k : Nat} (ih : Met P w K mg base CX0 k (He.ga K "Runner") "execute" (spExec K n)) : Met P w K mg base CX0 (k + 1) (He.ga K "Runner") "branch" (spBranch K n) := by
  refine met_0 (f_Runner_branch T) (k_Runner T) (me_Runner_branch T) sc_Runner_branch (fun _ _ _ _ _ _ us hl => match us, hl with | [_, _, _, _], _ => rfl) (fun vs H Q E h => match vs, h with | [_, _, _, _], _ => rfl) (fun cdv A outer s H vs Q E hr h => ?_)
  match vs, h with
  | [x, o, p, t], h =>
  obtain ⟨H0, A, e, ks, s, pth, c, wd, f1, f2, a, b, rfl, rfl, R, VE, k, ho, hp, da, db, ka, kb, wa, wb, sa', sb', hl, q⟩ := h
  refine ⟨_, (pss_cons (ps_set (i := 4) sc_Runner_branch.nd rfl (Or.inl rfl) (pe_op op_sub pe_int (pct (z_int T) call_int1 boot_int (pa_cons (pv 3) pa_nil))))
    (pss_one (ps_expr (pmt ih hr (pv 0) (pa_cons (pe_ix ix_tup (pv 1) (pe_op op_add pe_int (pv 4)) (fun _ _ => rfl)) (pa_cons (pe_op op_catG (pv 2) (pe_tup (pa_cons (pv 4) pa_nil))) pa_nil)))))), ?_⟩
  obtain ⟨W, R⟩ := R
  obtain ⟨sa, xs, rfl, hsa, hx⟩ := Dp.tup_inv ho
  obtain ⟨x0, r0, rfl, d0, hx⟩ := DpAll.cons_inv hx
  obtain ⟨x1, r1, rfl, d1, hx⟩ := DpAll.cons_inv hx
  obtain ⟨x2, r2, rfl, d2, hx⟩ := DpAll.cons_inv hx
  obtain ⟨x3, r3, rfl, d3, hx⟩ := DpAll.cons_inv hx
  obtain ⟨x4, r4, rfl, d4, hx⟩ := DpAll.cons_inv hx
  obtain rfl := DpAll.nil_inv hx
  obtain ⟨pa, rfl, hpa⟩ := path_inv hp
  have hl1 : pth.length + 1 ≤ sizeLine := Nat.le_of_lt (small6 (by omega))
  refine ⟨_, rfl, .inr ⟨c, rfl, _, _, rfl, rfl, ?_⟩⟩
  cases c with
  | true =>
    have e0 : (fun i j : Int => V.int (i - j)) 1 (if true = true then 1 else 0) = .int 0 := rfl
    rw [e0]
    refine ⟨_, rfl, A.r, W.dr, _, rfl, R.r, rfl, _, rfl, _, rfl, _, _, rfl, rfl, sa, _, _, x3, rfl, rfl, smT R.sm hsa, at3, _, rfl, _, rfl, (by show 1 ≤ sizeLine; decide), fun p1 hp1 => ?_⟩
    refine path_snoc (smT (smNew1 hp1 _) hpa) (SqT.of upd_same) hl1 fun v H3 s3 hh => ?_
    have e3 : Same H H3 := (smNew1 hp1 _).trans s3
    refine ⟨H0, A, e, ks, s, a, _, rfl, ⟨W, R.keep e3⟩, VE, k, d3, hh, da, ka, wa, sa', by rw [List.length_append]; show pth.length + 1 + 2 * n ≤ 900; omega, fun H' R' k' ts => ?_⟩
    exact q H' R' k' fun a xs h => ts a xs (smT e3 h)
  | false =>
    have e0 : (fun i j : Int => V.int (i - j)) 1 (if false = true then 1 else 0) = .int 1 := rfl
    rw [e0]
    refine ⟨_, rfl, A.r, W.dr, _, rfl, R.r, rfl, _, rfl, _, rfl, _, _, rfl, rfl, sa, _, _, x4, rfl, rfl, smT R.sm hsa, at4, _, rfl, _, rfl, (by show 1 ≤ sizeLine; decide), fun p1 hp1 => ?_⟩
    refine path_snoc (smT (smNew1 hp1 _) hpa) (SqT.of upd_same) hl1 fun v H3 s3 hh => ?_
    have e3 : Same H H3 := (smNew1 hp1 _).trans s3
    refine ⟨H0, A, e, ks, s, b, _, rfl, ⟨W, R.keep e3⟩, VE, k, d4, hh, db, kb, wb, sb', by rw [List.length_append]; show pth.length + 1 + 2 * n ≤ 900; omega, fun H' R' k' ts => ?_⟩
    exact q H' R' k' fun a xs h => ts a xs (smT e3 h)
theorem sc_Runner_statement : FnScope ["self", "one", "path", "word", "turn"] ["self", "one", "path"] (defScope s_Runner_statement) := ⟨rfl, rfl, rfl, by decide +kernel, rfl, by decide +kernel, by decide +kernel⟩
theorem ok_statement (T : Top w K mg) {n' k : Nat} (ih : Met P w K mg base CX0 (k + 6) (He.ga K "Runner") "execute" (spExec K n')) : Met P w K mg base CX0 (k + 8) (He.ga K "Runner") "statement" (spStmt K n') := by
  refine met_0 (f_Runner_statement T) (k_Runner T) (me_Runner_statement T) sc_Runner_statement (fun _ _ _ _ _ _ us hl => match us, hl with | [_, _, _], _ => rfl) (fun vs H Q E h => match vs, h with | [_, _, _], _ => rfl) (fun cdv A outer s H vs Q E hr h => ?_)
  match vs, h with
  | [x, o, p], h =>
  obtain ⟨H0, A, e, ks, s, st, pth, rfl, ⟨W, R⟩, VE, k, ho, hp, ds, kst, wst, ss, hl, q⟩ := h
  refine ⟨_, (pss_cons (ps_set (i := 3) sc_Runner_statement.nd rfl (Or.inl rfl) (pe_ix ix_tup (pv 1) pe_int (fun _ _ => rfl)))
    (pss_one (ps_if (pt_cmpR op_eq (pv 3) pe_str (nomark _))
      (pss_cons (ps_dput (hu_of hr) (pe_fld (pv 0) rfl) (pe_ix ix_tup (pv 1) pe_int (fun _ _ => rfl)) (pe_getO (E := E0) (o_Surroundings_getitem T).calm (fun _ _ _ _ _ _ _ h => h.elim) hr (pe_fld (pv 0) rfl) (pe_ix ix_tup (pv 1) pe_int (fun _ _ => rfl))) rfl)
    (pss_one (ps_expr (pe_bm PySem.F.plainAttrs_list PySem.F.slot_list_append PySem.F.type_list_append mt_append (pe_fld (pe_fld (pv 0) rfl) rfl) (pa_cons (pe_tup (pa_cons (pv 2) (pa_cons (pe_ix ix_tup (pv 1) pe_int (fun _ _ => rfl)) (pa_cons (pe_getO (E := E0) (o_Surroundings_getitem T).calm (fun _ _ _ _ _ _ _ h => h.elim) hr (pe_fld (pv 0) rfl) (pe_ix ix_tup (pv 1) pe_int (fun _ _ => rfl))) (pa_cons (pe_op op_sub (pcb (z_len T) call_len_seq boot_len (pa_cons (pe_fld (pe_fld (pv 0) rfl) rfl) pa_nil)) pe_int) pa_nil))))) pa_nil)))))
      (pss_one (ps_if (pt_cmpR op_eq (pv 3) pe_str (nomark _))
      (pss_one (ps_dput (hu_of hr) (pe_fld (pv 0) rfl) (pe_ix ix_tup (pv 1) pe_int (fun _ _ => rfl)) (pe_ix ix_tup (pv 1) pe_int (fun _ _ => rfl)) rfl))
      (pss_one (ps_if (pt_cmpR op_eq (pv 3) pe_str (nomark _))
      (pss_one (ps_dput (hu_of hr) (pe_fld (pv 0) rfl) (pe_ix ix_tup (pv 1) pe_int (fun _ _ => rfl)) (pmt (c_Runner_value_of T) hr (pv 0) (pa_cons (pe_ix ix_tup (pv 1) pe_int (fun _ _ => rfl)) pa_nil)) rfl))
      (pss_one (ps_if (pt_cmpR op_eq (pv 3) pe_str (nomark _))
      (pss_one (ps_fld (pe_fld (pv 0) rfl) (pe_op op_catG (pe_fld (pe_fld (pv 0) rfl) rfl) (pe_tup (pa_cons (pmt (c_Runner_value_of T) hr (pv 0) (pa_cons (pe_ix ix_tup (pv 1) pe_int (fun _ _ => rfl)) pa_nil)) pa_nil))) rfl))
      (pss_one (ps_if (pt_cmpR op_eq (pv 3) pe_str (nomark _))
      (pss_one (ps_fld (pe_fld (pv 0) rfl) (pe_op op_catG (pe_fld (pe_fld (pv 0) rfl) rfl) (pe_tup (pa_cons (pe_ix ix_tup (pv 1) pe_int (fun _ _ => rfl)) pa_nil))) rfl))
      (pss_one (ps_if (pt_cmpR op_eq (pv 3) pe_str (nomark _))
      (pss_one (ps_expr (pmt0 (c_Runner_wait T) hr (pv 0))))
      (pss_one (ps_if (pt_cmpR op_eq (pv 3) pe_str (nomark _))
      (pss_one (ps_expr (pmt (ok_branch T ih) hr (pv 0) (pa_cons (pv 1) (pa_cons (pv 2) (pa_cons (pe_cmpR op_eq (pmt (c_Runner_value_of T) hr (pv 0) (pa_cons (pe_ix ix_tup (pv 1) pe_int (fun _ _ => rfl)) pa_nil)) (pe_ix ix_tup (pv 1) pe_int (fun _ _ => rfl)) (nomark _)) pa_nil))))))
      (pss_one (ps_if (pt_cmpR op_eq (pv 3) pe_str (nomark _))
      (pss_one (ps_expr (pmt (ok_branch T ih) hr (pv 0) (pa_cons (pv 1) (pa_cons (pv 2) (pa_cons (pe_cmpR op_eq (pmt (c_Runner_value_of T) hr (pv 0) (pa_cons (pe_ix ix_tup (pv 1) pe_int (fun _ _ => rfl)) pa_nil)) (pmt (c_Runner_value_of T) hr (pv 0) (pa_cons (pe_ix ix_tup (pv 1) pe_int (fun _ _ => rfl)) pa_nil)) (nomark _)) pa_nil))))))
      (pss_one (ps_if (pt_cmpR op_eq (pv 3) pe_str (nomark _))
      (pss_one (ps_for PassesOwn.never rfl (pi_range1 rfl (z_range T) (pa_cons (pe_ix ix_tup (pv 1) pe_int (fun _ _ => rfl)) pa_nil)) (pg_name (i := 4) sc_Runner_statement.nd rfl (Or.inl rfl))
      (pss_one (ps_expr (pmt ih hr (pv 0) (pa_cons (pe_ix ix_tup (pv 1) pe_int (fun _ _ => rfl)) (pa_cons (pe_op op_catG (pv 2) (pe_tup (pa_cons pe_int pa_nil))) pa_nil)))))))
      (pss_one (ps_fld (pv 0) pe_bl rfl))))))))))))))))))))), ?_⟩
  obtain ⟨sa, sxs, rfl, hsa, hsx⟩ := shape_of ho
  refine ⟨_, rfl, sa, _, _, _, rfl, rfl, smT R.sm hsa, at0, ?_⟩
  cases st with
  | read v kk =>
    obtain ⟨x0, r0, rfl, d0, hsx⟩ := DpAll.cons_inv hsx
    obtain ⟨x1, r1, rfl, d1, hsx⟩ := DpAll.cons_inv hsx
    obtain rfl := DpAll.nil_inv hsx
    obtain rfl := Dp.str_inv d0
    obtain rfl := Dp.str_inv d1
    refine ⟨_, rfl, rfl, _, rfl, ifT (decide_eq_true rfl) ?_⟩
    have hk : kk ∈ wKeys s.now := by rw [k.keys]; exact of_decide_eq_true kst
    have hg : wGet s.now kk = some (nOf s kk) := by
      unfold nOf
      cases e : wGet s.now kk with
      | none => exact absurd hk (wGet_none.mp e)
      | some n => rfl
    have sz1 : s.held.length ≤ 5000 ∧ s.seen.length ≤ 5000 := by unfold sz at ss; omega
    refine ⟨_, rfl, A.r, _, W.dr, _, _, rfl, R.r, k_Runner T, na_Runner_place T, rfl, _, rfl, sa, _, _, _, rfl, rfl, smT R.sm hsa, at2, A.pl, W.dp, _, rfl, R.pl, A.pl, s.now, kk, rfl, rfl, R.sur k VE.ok, fun n hn => ?_, fun z => absurd hk z⟩
    obtain rfl : nOf s kk = n := by rw [hg] at hn; exact Option.some.inj hn
    refine ⟨_, rfl, A.r, _, W.dr, _, _, rfl, R.r, k_Runner T, na_Runner_held T, rfl, _, rfl, sa, _, _, _, rfl, rfl, smT R.sm hsa, at1, A.hd, _, rfl, .inl ⟨mK s.held, .inr v, R.held, rfl, small6 (by show (s.held.map _).length ≤ 6000; rw [List.length_map]; omega), rfl⟩, ?_⟩
    rw [putK_w]
    have R1 := R.upHeld (wPut s.held v (nOf s kk))
    have ts1 : TS K H (upd H A.hd (.dK (mK (wPut s.held v (nOf s kk))))) := ts_upd _ R.held trivial
    have hp1 := dp_ts ts1 hp (noL_path _)
    obtain ⟨H1, eH1⟩ : ∃ H1, H1 = upd H A.hd (.dK (mK (wPut s.held v (nOf s kk)))) := ⟨_, rfl⟩
    rw [← eH1] at R1 ts1 hp1 ⊢
    refine ⟨_, rfl, A.r, _, W.dr, _, _, rfl, R1.r, k_Runner T, na_Runner_outcome T, rfl, A.oc, _, W.dq, _, _, rfl, R1.oc, k_Outcome T, na_Outcome_looked T, rfl, .inl ⟨rfl, _, SqL.of R1.ll⟩, ?_⟩
    refine ⟨_, rfl, _, rfl, sa, _, _, _, rfl, rfl, smT R1.sm hsa, at2, _, rfl, A.r, _, W.dr, _, _, rfl, R1.r, k_Runner T, na_Runner_place T, rfl, _, rfl, sa, _, _, _, rfl, rfl, smT R1.sm hsa, at2, A.pl, W.dp, _, rfl, R1.pl, A.pl, s.now, kk, rfl, rfl, R1.sur k.of VE.ok, fun n hn => ?_, fun z => absurd hk z⟩
    obtain rfl : nOf s kk = n := by rw [hg] at hn; exact Option.some.inj hn
    have lws : W.ws.length = s.went.length := by have := DpAll.len R.dw; rw [List.length_map] at this; exact this
    have lls : W.ls.length = s.seen.length := by have := DpAll.len R.dl; rw [List.length_map] at this; exact this
    refine ⟨_, rfl, A.r, _, W.dr, _, _, rfl, R1.r, k_Runner T, na_Runner_outcome T, rfl, A.oc, _, W.dq, _, _, rfl, R1.oc, k_Outcome T, na_Outcome_went T, rfl, A.wl, W.ws, rfl, .inl (SqL.of R1.wl), _, _, rfl, rfl, (by show 4 ≤ sizeLine; decide), fun pt hpt => ?_⟩
    have R2 := R1.keep (smNew1 hpt (.tup [p, .str kk, .int (nOf s kk), .int ((W.ws.length : Nat) - 1)]))
    refine ⟨A.ll, W.ls, .ref pt, rfl, rfl, R2.ll, small6 (by omega), ?_⟩
    have hq : Dp K (upd H1 pt (.tup [p, .str kk, .int (nOf s kk), .int ((W.ws.length : Nat) - 1)])) (.ref pt) (seenD (pth, kk, nOf s kk, ((s.went.length : Nat) : Int) - 1)) := by
      refine .tup (SqT.of upd_same) (.cons (Dp.keep (smNew1 hpt _) hp1) (.cons (.str _) (.cons (.int _) (.cons ?_ .nil))))
      rw [lws]
      exact .int _
    have R3 := R2.upSeen (.ref pt) _ hq
    refine q _ ?_ ?_ ?_
    · exact ⟨_, R3⟩
    · exact k.of
    · exact fun a xs h => ts_upd (K := K) _ R2.ll trivial a xs (smT (smNew1 hpt _) (ts1 a xs h))
  | set v n =>
    obtain ⟨x0, r0, rfl, d0, hsx⟩ := DpAll.cons_inv hsx
    obtain ⟨x1, r1, rfl, d1, hsx⟩ := DpAll.cons_inv hsx
    obtain rfl := DpAll.nil_inv hsx
    obtain rfl := Dp.str_inv d0
    obtain rfl := Dp.int_inv d1
    refine ⟨_, rfl, rfl, _, rfl, ifF (decide_eq_false fun z => absurd (V.str.inj z) (by show ("set" : Str) ≠ "read"; decide)) ?_⟩
    refine ⟨_, rfl, rfl, _, rfl, ifT (decide_eq_true rfl) ?_⟩
    have sz1 : s.held.length ≤ 5000 := by unfold sz at ss; omega
    refine ⟨_, rfl, sa, _, _, _, rfl, rfl, smT R.sm hsa, at2, _, rfl, A.r, _, W.dr, _, _, rfl, R.r, k_Runner T, na_Runner_held T, rfl, _, rfl, sa, _, _, _, rfl, rfl, smT R.sm hsa, at1, A.hd, _, rfl, .inl ⟨mK s.held, .inr v, R.held, rfl, small6 (by show (s.held.map _).length ≤ 6000; rw [List.length_map]; omega), rfl⟩, ?_⟩
    rw [putK_w]
    exact q _ ⟨_, R.upHeld (wPut s.held v n)⟩ k.of (ts_upd _ R.held trivial)
  | copy v u =>
    obtain ⟨x0, r0, rfl, d0, hsx⟩ := DpAll.cons_inv hsx
    obtain ⟨x1, r1, rfl, d1, hsx⟩ := DpAll.cons_inv hsx
    obtain rfl := DpAll.nil_inv hsx
    obtain rfl := Dp.str_inv d0
    obtain rfl := Dp.str_inv d1
    refine ⟨_, rfl, rfl, _, rfl, ifF (decide_eq_false fun z => absurd (V.str.inj z) (by show ("copy" : Str) ≠ "read"; decide)) ?_⟩
    refine ⟨_, rfl, rfl, _, rfl, ifF (decide_eq_false fun z => absurd (V.str.inj z) (by show ("copy" : Str) ≠ "set"; decide)) ?_⟩
    refine ⟨_, rfl, rfl, _, rfl, ifT (decide_eq_true rfl) ?_⟩
    have sz1 : s.held.length ≤ 5000 := by unfold sz at ss; omega
    refine ⟨_, rfl, A.r, W.dr, _, rfl, R.r, rfl, _, rfl, sa, _, _, _, rfl, rfl, smT R.sm hsa, at2, H0, A, s, u, rfl, rfl, ⟨W, R⟩, ?_⟩
    refine ⟨_, rfl, A.r, _, W.dr, _, _, rfl, R.r, k_Runner T, na_Runner_held T, rfl, _, rfl, sa, _, _, _, rfl, rfl, smT R.sm hsa, at1, A.hd, _, rfl, .inl ⟨mK s.held, .inr v, R.held, rfl, small6 (by show (s.held.map _).length ≤ 6000; rw [List.length_map]; omega), rfl⟩, ?_⟩
    rw [putK_w]
    exact q _ ⟨_, R.upHeld (wPut s.held v (vOf s u))⟩ k.of (ts_upd _ R.held trivial)
  | print v =>
    obtain ⟨x0, r0, rfl, d0, hsx⟩ := DpAll.cons_inv hsx
    obtain rfl := DpAll.nil_inv hsx
    obtain rfl := Dp.str_inv d0
    refine ⟨_, rfl, rfl, _, rfl, ifF (decide_eq_false fun z => absurd (V.str.inj z) (by show ("print" : Str) ≠ "read"; decide)) ?_⟩
    refine ⟨_, rfl, rfl, _, rfl, ifF (decide_eq_false fun z => absurd (V.str.inj z) (by show ("print" : Str) ≠ "set"; decide)) ?_⟩
    refine ⟨_, rfl, rfl, _, rfl, ifF (decide_eq_false fun z => absurd (V.str.inj z) (by show ("print" : Str) ≠ "copy"; decide)) ?_⟩
    refine ⟨_, rfl, rfl, _, rfl, ifT (decide_eq_true rfl) ?_⟩
    have sz1 : s.printed.length ≤ 5000 := by unfold sz at ss; omega
    refine ⟨_, rfl, A.r, _, W.dr, _, _, rfl, R.r, k_Runner T, na_Runner_outcome T, rfl, A.oc, _, W.dq, _, _, rfl, R.oc, k_Outcome T, na_Outcome_printed T, rfl, _, rfl, A.r, W.dr, _, rfl, R.r, rfl, _, rfl, sa, _, _, _, rfl, rfl, smT R.sm hsa, at1, H0, A, s, v, rfl, rfl, ⟨W, R⟩, (by show 1 ≤ sizeLine; decide), fun p1 hp1 => ?_⟩
    refine path_snoc (smT (smNew1 hp1 _) R.pt) (SqT.of upd_same) (Nat.le_of_lt (small6 (by omega))) fun y H3 s3 hh => ?_
    obtain ⟨pt, rfl, hpt⟩ := path_inv hh
    have e3 := (smNew1 hp1 (.tup [.int (vOf s v)])).trans s3
    have R3 := R.keep e3
    refine ⟨_, rfl, A.r, _, W.dr, _, _, rfl, R3.r, k_Runner T, na_Runner_outcome T, rfl, A.oc, _, W.dq, _, rfl, R3.oc, k_Outcome T, na_Outcome_printed T, (by show 5 < 1000; decide), ?_⟩
    exact q _ ⟨_, R3.upOut pt (s.printed ++ [vOf s v]) s.waits hpt⟩ k.of (fun a xs h => ts_upd (K := K) _ R3.oc trivial a xs (smT e3 h))
  | say n =>
    obtain ⟨x0, r0, rfl, d0, hsx⟩ := DpAll.cons_inv hsx
    obtain rfl := DpAll.nil_inv hsx
    obtain rfl := Dp.int_inv d0
    refine ⟨_, rfl, rfl, _, rfl, ifF (decide_eq_false fun z => absurd (V.str.inj z) (by show ("say" : Str) ≠ "read"; decide)) ?_⟩
    refine ⟨_, rfl, rfl, _, rfl, ifF (decide_eq_false fun z => absurd (V.str.inj z) (by show ("say" : Str) ≠ "set"; decide)) ?_⟩
    refine ⟨_, rfl, rfl, _, rfl, ifF (decide_eq_false fun z => absurd (V.str.inj z) (by show ("say" : Str) ≠ "copy"; decide)) ?_⟩
    refine ⟨_, rfl, rfl, _, rfl, ifF (decide_eq_false fun z => absurd (V.str.inj z) (by show ("say" : Str) ≠ "print"; decide)) ?_⟩
    refine ⟨_, rfl, rfl, _, rfl, ifT (decide_eq_true rfl) ?_⟩
    have sz1 : s.printed.length ≤ 5000 := by unfold sz at ss; omega
    refine ⟨_, rfl, A.r, _, W.dr, _, _, rfl, R.r, k_Runner T, na_Runner_outcome T, rfl, A.oc, _, W.dq, _, _, rfl, R.oc, k_Outcome T, na_Outcome_printed T, rfl, _, rfl, sa, _, _, _, rfl, rfl, smT R.sm hsa, at1, (by show 1 ≤ sizeLine; decide), fun p1 hp1 => ?_⟩
    refine path_snoc (smT (smNew1 hp1 _) R.pt) (SqT.of upd_same) (Nat.le_of_lt (small6 (by omega))) fun y H3 s3 hh => ?_
    obtain ⟨pt, rfl, hpt⟩ := path_inv hh
    have e3 := (smNew1 hp1 (.tup [.int n])).trans s3
    have R3 := R.keep e3
    refine ⟨_, rfl, A.r, _, W.dr, _, _, rfl, R3.r, k_Runner T, na_Runner_outcome T, rfl, A.oc, _, W.dq, _, rfl, R3.oc, k_Outcome T, na_Outcome_printed T, (by show 5 < 1000; decide), ?_⟩
    exact q _ ⟨_, R3.upOut pt (s.printed ++ [n]) s.waits hpt⟩ k.of (fun a xs h => ts_upd (K := K) _ R3.oc trivial a xs (smT e3 h))
  | wait =>
    refine ⟨_, rfl, rfl, _, rfl, ifF (decide_eq_false fun z => absurd (V.str.inj z) (by show ("wait" : Str) ≠ "read"; decide)) ?_⟩
    refine ⟨_, rfl, rfl, _, rfl, ifF (decide_eq_false fun z => absurd (V.str.inj z) (by show ("wait" : Str) ≠ "set"; decide)) ?_⟩
    refine ⟨_, rfl, rfl, _, rfl, ifF (decide_eq_false fun z => absurd (V.str.inj z) (by show ("wait" : Str) ≠ "copy"; decide)) ?_⟩
    refine ⟨_, rfl, rfl, _, rfl, ifF (decide_eq_false fun z => absurd (V.str.inj z) (by show ("wait" : Str) ≠ "print"; decide)) ?_⟩
    refine ⟨_, rfl, rfl, _, rfl, ifF (decide_eq_false fun z => absurd (V.str.inj z) (by show ("wait" : Str) ≠ "say"; decide)) ?_⟩
    refine ⟨_, rfl, rfl, _, rfl, ifT (decide_eq_true rfl) ?_⟩
    exact ⟨_, rfl, A.r, W.dr, _, rfl, R.r, rfl, H0, A, e, ks, s, rfl, ⟨W, R⟩, VE, k, fun H' R' k' ts => q H' R' k' ts⟩
  | ite v n a b =>
    obtain ⟨x0, r0, rfl, d0, hsx⟩ := DpAll.cons_inv hsx
    obtain ⟨x1, r1, rfl, d1, hsx⟩ := DpAll.cons_inv hsx
    obtain ⟨x2, r2, rfl, d2, hsx⟩ := DpAll.cons_inv hsx
    obtain ⟨x3, r3, rfl, d3, hsx⟩ := DpAll.cons_inv hsx
    obtain rfl := DpAll.nil_inv hsx
    obtain rfl := Dp.str_inv d0
    obtain rfl := Dp.int_inv d1
    refine ⟨_, rfl, rfl, _, rfl, ifF (decide_eq_false fun z => absurd (V.str.inj z) (by show ("if" : Str) ≠ "read"; decide)) ?_⟩
    refine ⟨_, rfl, rfl, _, rfl, ifF (decide_eq_false fun z => absurd (V.str.inj z) (by show ("if" : Str) ≠ "set"; decide)) ?_⟩
    refine ⟨_, rfl, rfl, _, rfl, ifF (decide_eq_false fun z => absurd (V.str.inj z) (by show ("if" : Str) ≠ "copy"; decide)) ?_⟩
    refine ⟨_, rfl, rfl, _, rfl, ifF (decide_eq_false fun z => absurd (V.str.inj z) (by show ("if" : Str) ≠ "print"; decide)) ?_⟩
    refine ⟨_, rfl, rfl, _, rfl, ifF (decide_eq_false fun z => absurd (V.str.inj z) (by show ("if" : Str) ≠ "say"; decide)) ?_⟩
    refine ⟨_, rfl, rfl, _, rfl, ifF (decide_eq_false fun z => absurd (V.str.inj z) (by show ("if" : Str) ≠ "wait"; decide)) ?_⟩
    refine ⟨_, rfl, rfl, _, rfl, ifT (decide_eq_true rfl) ?_⟩
    have da : dB a ≤ n' ∧ dB b ≤ n' := by have : max (dB a) (dB b) ≤ n' := ds; omega
    have kk : kB ks a = true ∧ kB ks b = true := Bool.and_eq_true_iff.mp kst
    have ww : wB a = true ∧ wB b = true := by
      have := wB_of wst
      exact ⟨this a (by simp [Stm.bodies]), this b (by simp [Stm.bodies])⟩
    have sz1 : nS (.ite v n a b) = 1 + max (nB a) (nB b) := by rw [nS]
    rw [sz1] at ss
    refine ⟨_, rfl, A.r, W.dr, _, rfl, R.r, rfl, _, rfl, _, rfl, _, rfl, A.r, W.dr, _, rfl, R.r, rfl, _, rfl, sa, _, _, _, rfl, rfl, smT R.sm hsa, at1, H0, A, s, v, rfl, rfl, ⟨W, R⟩, _, rfl, sa, _, _, _, rfl, rfl, smT R.sm hsa, at2, rfl, ?_⟩
    refine ⟨H0, A, e, ks, s, pth, _, _, _, _, a, b, rfl, rfl, ⟨W, R⟩, VE, k, ho, hp, da.1, da.2, kk.1, kk.2, ww.1, ww.2, by omega, by omega, hl, fun H' R' k' ts => ?_⟩
    have eg : (if decide (V.int (vOf s v) = V.int n) = true then goB e (pth ++ [0]) 0 a s else goB e (pth ++ [1]) 0 b s) = goS e pth (.ite v n a b) s := by
      rw [goS]
      show _ = if vOf s v = n then _ else _
      by_cases hc : vOf s v = n
      · rw [if_pos hc, if_pos (decide_eq_true (congrArg V.int hc))]
      · rw [if_neg hc, if_neg (by simpa using hc)]
    rw [eg] at R' k'
    exact q H' R' k' ts
  | same v u a b =>
    obtain ⟨x0, r0, rfl, d0, hsx⟩ := DpAll.cons_inv hsx
    obtain ⟨x1, r1, rfl, d1, hsx⟩ := DpAll.cons_inv hsx
    obtain ⟨x2, r2, rfl, d2, hsx⟩ := DpAll.cons_inv hsx
    obtain ⟨x3, r3, rfl, d3, hsx⟩ := DpAll.cons_inv hsx
    obtain rfl := DpAll.nil_inv hsx
    obtain rfl := Dp.str_inv d0
    obtain rfl := Dp.str_inv d1
    refine ⟨_, rfl, rfl, _, rfl, ifF (decide_eq_false fun z => absurd (V.str.inj z) (by show ("same" : Str) ≠ "read"; decide)) ?_⟩
    refine ⟨_, rfl, rfl, _, rfl, ifF (decide_eq_false fun z => absurd (V.str.inj z) (by show ("same" : Str) ≠ "set"; decide)) ?_⟩
    refine ⟨_, rfl, rfl, _, rfl, ifF (decide_eq_false fun z => absurd (V.str.inj z) (by show ("same" : Str) ≠ "copy"; decide)) ?_⟩
    refine ⟨_, rfl, rfl, _, rfl, ifF (decide_eq_false fun z => absurd (V.str.inj z) (by show ("same" : Str) ≠ "print"; decide)) ?_⟩
    refine ⟨_, rfl, rfl, _, rfl, ifF (decide_eq_false fun z => absurd (V.str.inj z) (by show ("same" : Str) ≠ "say"; decide)) ?_⟩
    refine ⟨_, rfl, rfl, _, rfl, ifF (decide_eq_false fun z => absurd (V.str.inj z) (by show ("same" : Str) ≠ "wait"; decide)) ?_⟩
    refine ⟨_, rfl, rfl, _, rfl, ifF (decide_eq_false fun z => absurd (V.str.inj z) (by show ("same" : Str) ≠ "if"; decide)) ?_⟩
    refine ⟨_, rfl, rfl, _, rfl, ifT (decide_eq_true rfl) ?_⟩
    have da : dB a ≤ n' ∧ dB b ≤ n' := by have : max (dB a) (dB b) ≤ n' := ds; omega
    have kk : kB ks a = true ∧ kB ks b = true := Bool.and_eq_true_iff.mp kst
    have ww : wB a = true ∧ wB b = true := by
      have := wB_of wst
      exact ⟨this a (by simp [Stm.bodies]), this b (by simp [Stm.bodies])⟩
    have sz1 : nS (.same v u a b) = 1 + max (nB a) (nB b) := by rw [nS]
    rw [sz1] at ss
    refine ⟨_, rfl, A.r, W.dr, _, rfl, R.r, rfl, _, rfl, _, rfl, _, rfl, A.r, W.dr, _, rfl, R.r, rfl, _, rfl, sa, _, _, _, rfl, rfl, smT R.sm hsa, at1, H0, A, s, v, rfl, rfl, ⟨W, R⟩, _, rfl, A.r, W.dr, _, rfl, R.r, rfl, _, rfl, sa, _, _, _, rfl, rfl, smT R.sm hsa, at2, H0, A, s, u, rfl, rfl, ⟨W, R⟩, rfl, ?_⟩
    refine ⟨H0, A, e, ks, s, pth, _, _, _, _, a, b, rfl, rfl, ⟨W, R⟩, VE, k, ho, hp, da.1, da.2, kk.1, kk.2, ww.1, ww.2, by omega, by omega, hl, fun H' R' k' ts => ?_⟩
    have eg : (if decide (V.int (vOf s v) = V.int (vOf s u)) = true then goB e (pth ++ [0]) 0 a s else goB e (pth ++ [1]) 0 b s) = goS e pth (.same v u a b) s := by
      rw [goS]
      show _ = if vOf s v = vOf s u then _ else _
      by_cases hc : vOf s v = vOf s u
      · rw [if_pos hc, if_pos (decide_eq_true (congrArg V.int hc))]
      · rw [if_neg hc, if_neg (by simpa using hc)]
    rw [eg] at R' k'
    exact q H' R' k' ts
  | rep n a =>
    obtain ⟨x0, r0, rfl, d0, hsx⟩ := DpAll.cons_inv hsx
    obtain ⟨x1, r1, rfl, d1, hsx⟩ := DpAll.cons_inv hsx
    obtain rfl := DpAll.nil_inv hsx
    obtain rfl := Dp.int_inv d0
    refine ⟨_, rfl, rfl, _, rfl, ifF (decide_eq_false fun z => absurd (V.str.inj z) (by show ("repeat" : Str) ≠ "read"; decide)) ?_⟩
    refine ⟨_, rfl, rfl, _, rfl, ifF (decide_eq_false fun z => absurd (V.str.inj z) (by show ("repeat" : Str) ≠ "set"; decide)) ?_⟩
    refine ⟨_, rfl, rfl, _, rfl, ifF (decide_eq_false fun z => absurd (V.str.inj z) (by show ("repeat" : Str) ≠ "copy"; decide)) ?_⟩
    refine ⟨_, rfl, rfl, _, rfl, ifF (decide_eq_false fun z => absurd (V.str.inj z) (by show ("repeat" : Str) ≠ "print"; decide)) ?_⟩
    refine ⟨_, rfl, rfl, _, rfl, ifF (decide_eq_false fun z => absurd (V.str.inj z) (by show ("repeat" : Str) ≠ "say"; decide)) ?_⟩
    refine ⟨_, rfl, rfl, _, rfl, ifF (decide_eq_false fun z => absurd (V.str.inj z) (by show ("repeat" : Str) ≠ "wait"; decide)) ?_⟩
    refine ⟨_, rfl, rfl, _, rfl, ifF (decide_eq_false fun z => absurd (V.str.inj z) (by show ("repeat" : Str) ≠ "if"; decide)) ?_⟩
    refine ⟨_, rfl, rfl, _, rfl, ifF (decide_eq_false fun z => absurd (V.str.inj z) (by show ("repeat" : Str) ≠ "same"; decide)) ?_⟩
    refine ⟨_, rfl, rfl, _, rfl, ifT (decide_eq_true rfl) ?_⟩
    have da : dB a ≤ n' := ds
    have kk : kB ks a = true := kst
    have ww : wB a = true := wB_of wst a (by simp [Stm.bodies])
    have wn : 0 ≤ n ∧ n ≤ 3 := by
      rw [wS, Bool.and_eq_true, Bool.and_eq_true] at wst
      exact ⟨of_decide_eq_true wst.1.1, of_decide_eq_true wst.1.2⟩
    obtain ⟨m, rfl⟩ : ∃ m : Nat, n = m := ⟨n.toNat, by omega⟩
    have sz1 : nS (.rep m a) = 1 + m * nB a := by rw [nS]; rfl
    rw [sz1] at ss
    obtain ⟨pa, rfl, hpa⟩ := path_inv hp
    refine ⟨_, rfl, sa, _, _, _, rfl, rfl, smT R.sm hsa, at1, _, rfl, by omega, by omega, ?_⟩
    refine for_it (walk_range (lo := 0) (n := m)) (fun i σ H' => RunAt K H0 H' A (rept (goB e (pth ++ [0]) 0 a) i s) ∧ ROk e ks (rept (goB e (pth ++ [0]) 0 a) i s) ∧ TS K H H' ∧ ∃ v4, σ = [some (.ref A.r), some (.ref sa), some (.ref pa), some (.str "repeat"), v4])
      ⟨⟨W, R⟩, k, fun _ _ h => h, _, rfl⟩ (fun _ _ _ _ _ => trivial) ?_ ?_
    · rintro i x σ H1 H2 hi ⟨⟨W1, R1⟩, k1, ts, v4, rfl⟩ ⟨rfl, rfl⟩
      have zr := sz_rept e a (pth ++ [0]) 0 s i
      have i1 : (i + 1) * nB a ≤ m * nB a := Nat.mul_le_mul_right _ hi
      have i2 : (i + 1) * nB a = i * nB a + nB a := Nat.succ_mul ..
      refine ⟨_, rfl, A.r, W1.dr, _, rfl, R1.r, rfl, _, rfl, sa, _, _, _, rfl, rfl, smT R1.sm hsa, at2, _, rfl, (by show 1 ≤ sizeLine; decide), fun p1 hp1 => ?_⟩
      refine path_snoc (smT (smNew1 hp1 _) (ts _ _ hpa)) (SqT.of upd_same) (Nat.le_of_lt (small6 (by omega))) fun v H3 s3 hh => ?_
      have e3 := (smNew1 hp1 (.tup [.int 0])).trans s3
      refine ⟨H0, A, e, ks, _, a, _, rfl, ⟨W1, R1.keep e3⟩, VE, k1, d1, hh, da, kk, ww, by omega, by rw [List.length_append]; show pth.length + 1 + 2 * n' ≤ 900; omega, fun H' R' k' ts' => ?_⟩
      exact ⟨R', k', fun a xs h => ts' a xs (smT e3 (ts a xs h)), _, rfl⟩
    · rintro σ H1 ⟨R1, k1, ts, v4, rfl⟩
      exact q _ R1 k1 ts
  | stop =>
    refine ⟨_, rfl, rfl, _, rfl, ifF (decide_eq_false fun z => absurd (V.str.inj z) (by show ("stop" : Str) ≠ "read"; decide)) ?_⟩
    refine ⟨_, rfl, rfl, _, rfl, ifF (decide_eq_false fun z => absurd (V.str.inj z) (by show ("stop" : Str) ≠ "set"; decide)) ?_⟩
    refine ⟨_, rfl, rfl, _, rfl, ifF (decide_eq_false fun z => absurd (V.str.inj z) (by show ("stop" : Str) ≠ "copy"; decide)) ?_⟩
    refine ⟨_, rfl, rfl, _, rfl, ifF (decide_eq_false fun z => absurd (V.str.inj z) (by show ("stop" : Str) ≠ "print"; decide)) ?_⟩
    refine ⟨_, rfl, rfl, _, rfl, ifF (decide_eq_false fun z => absurd (V.str.inj z) (by show ("stop" : Str) ≠ "say"; decide)) ?_⟩
    refine ⟨_, rfl, rfl, _, rfl, ifF (decide_eq_false fun z => absurd (V.str.inj z) (by show ("stop" : Str) ≠ "wait"; decide)) ?_⟩
    refine ⟨_, rfl, rfl, _, rfl, ifF (decide_eq_false fun z => absurd (V.str.inj z) (by show ("stop" : Str) ≠ "if"; decide)) ?_⟩
    refine ⟨_, rfl, rfl, _, rfl, ifF (decide_eq_false fun z => absurd (V.str.inj z) (by show ("stop" : Str) ≠ "same"; decide)) ?_⟩
    refine ⟨_, rfl, rfl, _, rfl, ifF (decide_eq_false fun z => absurd (V.str.inj z) (by show ("stop" : Str) ≠ "repeat"; decide)) ?_⟩
    refine ⟨_, rfl, A.r, _, W.dr, _, rfl, R.r, k_Runner T, na_Runner_stopped T, (by show 6 < 1000; decide), ?_⟩
    exact q _ ⟨_, R.upStop true⟩ k.of (ts_upd _ R.r trivial)
theorem sc_Runner_execute : FnScope ["self", "body", "path", "place", "one"] ["self", "body", "path"] (defScope s_Runner_execute) := ⟨rfl, rfl, rfl, by decide +kernel, rfl, by decide +kernel, by decide +kernel⟩
theorem ok_execute (T : Top w K mg) {n k : Nat} (ih : Met P w K mg base CX0 (k + 6) (He.ga K "Runner") "execute" (spExec K n)) : Met P w K mg base CX0 (k + 9) (He.ga K "Runner") "execute" (spExec K (n + 1)) := by
  refine met_0 (f_Runner_execute T) (k_Runner T) (me_Runner_execute T) sc_Runner_execute (fun _ _ _ _ _ _ us hl => match us, hl with | [_, _, _], _ => rfl) (fun vs H Q E h => match vs, h with | [_, _, _], _ => rfl) (fun cdv A outer s H vs Q E hr h => ?_)
  match vs, h with
  | [x, b, p], h =>
  obtain ⟨H0, A, e, ks, s, l, pth, rfl, ⟨W, R⟩, VE, k, hb, hp, hd, kl, wl, sl, hl, q⟩ := h
  refine ⟨_, (pss_one (ps_for PassesOwn.never rfl (pi_enumA (by rfl) (z_enumerate T) (pa_cons (pv 1) pa_nil)) (pg_tup rfl (pgs_cons (pg_name (i := 3) sc_Runner_execute.nd rfl (Or.inl rfl)) (pgs_cons (pg_name (i := 4) sc_Runner_execute.nd rfl (Or.inl rfl)) pgs_nil)))
      (pss_one (ps_if (pt_not (pt_val (pe_fld (pv 0) rfl)))
      (pss_one (ps_expr (pmt (ok_statement T ih) hr (pv 0) (pa_cons (pv 4) (pa_cons (pe_op op_catG (pv 2) (pe_tup (pa_cons (pv 3) pa_nil))) pa_nil)))))
      pss_nil)))), ?_⟩
  obtain ⟨ba, xs, rfl, hba, hx⟩ := Dp.tup_inv hb
  have lx : xs.length = l.length := by rw [DpAll.len hx, encB_map, List.length_map]
  refine ⟨_, rfl, ?_⟩
  refine enumA_of (.inr hba) R.sm fun J wk => ?_
  refine for_it wk (fun i σ H' => RunAt K H0 H' A (goB e pth 0 (l.take i) s) ∧ ROk e ks (goB e pth 0 (l.take i) s) ∧ TS K H H' ∧ ∃ v3 v4, σ = [some (.ref A.r), some (.ref ba), some p, v3, v4])
    ⟨⟨W, R⟩, k, fun _ _ h => h, _, _, rfl⟩ (fun i σ H' _ h => let ⟨⟨_, R⟩, _⟩ := h; R.sm) ?_ ?_
  · rintro i x σ H1 H2 hi ⟨⟨W1, R1⟩, k1, ts, v3, v4, rfl⟩ ⟨t, y, z, rfl, ht, rfl, hy, hz⟩
    obtain rfl : V.int (i : Nat) = y := Option.some.inj hy
    obtain ⟨d, hd1, hd2⟩ := DpAll.getV hx hz
    obtain ⟨st, hst, rfl⟩ := encB_get hd1
    have e2 : Same H1 (upd H1 t (.tup [.int (i : Nat), z])) := smNew1 ht _
    have R2 := R1.keep e2
    have ft := goB_take (e := e) (p := pth) hst s
    have nt := nB_take hst
    have nl := nB_le (l := l) (i + 1)
    have zt := sz_B e (l.take i) pth 0 s
    have dm := dB_mem (List.mem_of_getElem? hst)
    have km := kB_mem kl (List.mem_of_getElem? hst)
    obtain ⟨u, eu⟩ : ∃ u, u = goB e pth 0 (l.take i) s := ⟨_, rfl⟩
    rw [← eu] at R1 R2 k1 ft zt
    refine ⟨t, _, rfl, SqT.of upd_same, rfl, _, _, rfl, _, _, rfl, rfl, ?_⟩
    refine ⟨_, rfl, A.r, _, W1.dr, _, _, rfl, R2.r, k_Runner T, na_Runner_stopped T, rfl, ?_⟩
    rw [ft]
    have ts2 : TS K H (upd H1 t (.tup [.int (i : Nat), z])) := fun a xs h => smT e2 (ts a xs h)
    refine ⟨_, rfl, ?_⟩
    refine ifB (fun hs => ?_) (fun hs => ?_)
    · have hs' : u.stop = false := by simpa using hs
      rw [hs', if_neg Bool.false_ne_true]
      obtain ⟨pa, rfl, hpa⟩ := path_inv (dp_ts ts2 hp (noL_path _))
      refine ⟨_, rfl, A.r, W1.dr, _, rfl, R2.r, rfl, _, rfl, _, rfl, _, rfl, (by show 1 ≤ sizeLine; decide), fun p1 hp1 => ?_⟩
      refine path_snoc (smT (smNew1 hp1 _) hpa) (SqT.of upd_same) (Nat.le_of_lt (small6 (by omega))) fun here H3 s3 hh => ?_
      have e3 := (smNew1 hp1 (.tup [.int (i : Nat)])).trans s3
      refine ⟨H0, A, e, ks, u, st, _, rfl, ⟨W1, R2.keep e3⟩, VE, k1, hd2, hh, by omega, km, wB_all wl _ (List.mem_of_getElem? hst), by omega, by rw [List.length_append]; show pth.length + 1 + 2 * n + 1 ≤ 900; omega, fun H' R' k' ts' => ?_⟩
      exact ⟨R', k', fun a xs h => ts' a xs (smT e3 (ts2 a xs h)), _, _, rfl⟩
    · have hs' : u.stop = true := by simpa using hs
      rw [if_pos hs']
      exact ⟨⟨W1, R2⟩, k1, ts2, _, _, rfl⟩
  · rintro σ H1 ⟨R1, k1, ts, v3, v4, rfl⟩
    rw [lx, List.take_length] at R1 k1
    exact q _ R1 k1 ts
theorem c_execute (T : Top w K mg) : ∀ n, Met P w K mg base CX0 (3 * n + 6) (He.ga K "Runner") "execute" (spExec K n)
  | 0 => met_never (f_Runner_execute T) (k_Runner T) (me_Runner_execute T) (ps := ["self", "body", "path"]) (fun _ _ _ _ _ _ us hl => match us, hl with | [_, _, _], _ => rfl) fun vs H Q E h => by
      match vs, h with
      | [x, b, p], h =>
      obtain ⟨_, _, _, _, _, l, _, _, _, _, _, _, _, hn, _⟩ := h
      have := dB_one l
      omega
  | n + 1 => ok_execute T (k := 3 * n) (c_execute T n)
end
end RM

set_option Elab.async false
set_option linter.all false
set_option maxRecDepth 100000
set_option maxHeartbeats 4000000
set_option pp.maxSteps 600
set_option pp.deepTerms false
namespace RM
open PySem PySem.Spec PyProof.Rows L2
theorem off_none {H H' : Hp} {a : Addr} {o : HO} (off : Off a H H') (ha : H' a = some o) (b : Addr) (hb : H' b = none) : H b = none := by
  cases e : H b with
  | none => rfl
  | some u =>
    by_cases z : b = a
    · rw [z, ha] at hb; cases hb
    · rw [off b u z e] at hb; cases hb
section
variable {P : Program} {w : World} {K : PySem.W.Frag} {mg : Str → Option Value} {base : Heap}
/-! ### Outcome(..) -/
def spOutInit (K : PySem.W.Frag) : Sp := fun vs H Q _ => match vs with
  | [x, f] => ∃ a dx, x = .ref a ∧ H a = some (.ins (He.ga K "Outcome") dx []) ∧
    ∀ H' pt wl ll, Off a H H' → H' a = some (.ins (He.ga K "Outcome") dx [("printed", .ref pt), ("went", .ref wl), ("looked", .ref ll), ("waits", .int 0), ("ended", .non)]) → H' pt = some (.tup []) → H' wl = some (.lst [f]) → H' ll = some (.lst []) →
      H wl = none → H ll = none → wl ≠ ll → Q .non H'
  | _ => False
theorem sc_Outcome_init : FnScope ["self", "first"] ["self", "first"] (defScope s_Outcome_init) := ⟨rfl, rfl, rfl, by decide +kernel, rfl, by decide +kernel, by decide +kernel⟩
theorem c_Outcome_init (T : Top w K mg) : Mak P w K mg base CX0 1 "Outcome" (He.ga K "Outcome") (spOutInit K) := by
  refine mak_0 (f_Outcome_init T) (mk_Outcome T) (g_Outcome T) sc_Outcome_init (fun _ _ _ _ _ _ us hl => match us, hl with | [_, _], _ => rfl) (fun vs H Q E h => match vs, h with | [_, _], _ => rfl) (fun cdv A outer s H vs Q E hr h => ?_)
  match vs, h with
  | [x, f], h =>
  obtain ⟨a, dx, rfl, ha, q⟩ := h
  refine ⟨_, (pss_cons (ps_fld (pv 0) (pe_tup pa_nil) rfl)
    (pss_cons (ps_fld (pv 0) (pe_lst (pa_cons (pv 1) pa_nil)) rfl)
    (pss_cons (ps_fld (pv 0) (pe_lst pa_nil) rfl)
    (pss_cons (ps_fld (pv 0) pe_int rfl)
    (pss_one (ps_fld (pv 0) pe_non rfl)))))), ?_⟩
  refine ⟨(by show 0 ≤ sizeLine; decide), fun pt hpt => ?_⟩
  have apt : a ≠ pt := ne_of_none ha hpt
  refine ⟨_, rfl, a, He.ga K "Outcome", dx, _, rfl, by rw [upd_ne apt]; exact ha, k_Outcome T, na_Outcome_printed T, (by show 0 < 1000; decide), ?_⟩
  obtain ⟨H1, e1⟩ : ∃ H1, H1 = upd (upd H pt (.tup [])) a (.ins (He.ga K "Outcome") dx (putF "printed" (.ref pt) [])) := ⟨_, rfl⟩
  have o1 : Off a H H1 := by rw [e1]; exact (off_sm (smNew1 hpt _)).trans off_upd
  have ha1 : H1 a = some (.ins (He.ga K "Outcome") dx [("printed", .ref pt)]) := by rw [e1, upd_same]; rfl
  have pt1 : H1 pt = some (.tup []) := by rw [e1, upd_ne (Ne.symm apt), upd_same]
  have n1 := off_none o1 ha1
  rw [← e1]
  clear e1
  refine ⟨_, rfl, (by show 1 ≤ sizeLine; decide), fun wl hwl => ?_⟩
  have awl : a ≠ wl := ne_of_none ha1 hwl
  refine ⟨_, rfl, a, He.ga K "Outcome", dx, _, rfl, by rw [upd_ne awl]; exact ha1, k_Outcome T, na_Outcome_went T, (by show 1 < 1000; decide), ?_⟩
  obtain ⟨H2, e2⟩ : ∃ H2, H2 = upd (upd H1 wl (.lst [f])) a (.ins (He.ga K "Outcome") dx (putF "went" (.ref wl) [("printed", .ref pt)])) := ⟨_, rfl⟩
  have o2 : Off a H1 H2 := by rw [e2]; exact (off_sm (smNew1 hwl _)).trans off_upd
  have ha2 : H2 a = some (.ins (He.ga K "Outcome") dx [("printed", .ref pt), ("went", .ref wl)]) := by rw [e2, upd_same]; rfl
  have wl2 : H2 wl = some (.lst [f]) := by rw [e2, upd_ne (Ne.symm awl), upd_same]
  have n2 := off_none o2 ha2
  rw [← e2]
  clear e2
  refine ⟨(by show 0 ≤ sizeLine; decide), fun ll hll => ?_⟩
  have all : a ≠ ll := ne_of_none ha2 hll
  refine ⟨_, rfl, a, He.ga K "Outcome", dx, _, rfl, by rw [upd_ne all]; exact ha2, k_Outcome T, na_Outcome_looked T, (by show 2 < 1000; decide), ?_⟩
  obtain ⟨H3, e3⟩ : ∃ H3, H3 = upd (upd H2 ll (.lst [])) a (.ins (He.ga K "Outcome") dx (putF "looked" (.ref ll) [("printed", .ref pt), ("went", .ref wl)])) := ⟨_, rfl⟩
  have o3 : Off a H2 H3 := by rw [e3]; exact (off_sm (smNew1 hll _)).trans off_upd
  have ha3 : H3 a = some (.ins (He.ga K "Outcome") dx [("printed", .ref pt), ("went", .ref wl), ("looked", .ref ll)]) := by rw [e3, upd_same]; rfl
  have ll3 : H3 ll = some (.lst []) := by rw [e3, upd_ne (Ne.symm all), upd_same]
  rw [← e3]
  clear e3
  refine ⟨_, rfl, a, He.ga K "Outcome", dx, _, rfl, ha3, k_Outcome T, na_Outcome_waits T, (by show 3 < 1000; decide), ?_⟩
  refine ⟨_, rfl, a, He.ga K "Outcome", dx, _, rfl, upd_same, k_Outcome T, na_Outcome_ended T, (by show 4 < 1000; decide), ?_⟩
  have o4 : ∀ o o' : HO, Off a H3 (upd (upd H3 a o) a o') := fun o o' => off_upd.trans off_upd
  have o24 := fun o o' => o3.trans (o4 o o')
  refine q _ pt wl ll ((o1.trans o2).trans (o24 _ _)) ?_ ?_ ?_ ?_ (n1 _ hwl) (n1 _ (n2 _ hll)) (fun z => by rw [z, hll] at wl2; cases wl2)
  · rw [upd_same]
    rfl
  · exact (o2.trans (o24 _ _)) _ _ (Ne.symm apt) pt1
  · exact o24 _ _ _ _ (Ne.symm awl) wl2
  · exact o4 _ _ _ _ (Ne.symm all) ll3
/-! ### Runner(..) -/
def iniS (m : WM) : RS := ⟨[], m, [], [wVals m], [], 0, false⟩
def spRunInit (K : PySem.W.Frag) : Sp := fun vs H Q _ => match vs with
  | [x, y, z, u] => ∃ a dx H0 b m ch pn, x = .ref a ∧ y = .ref b ∧ z = .ref ch ∧ u = .ref pn ∧ H a = some (.ins (He.ga K "Runner") dx []) ∧ Same H0 H ∧ H0 a = none ∧ SurAt K H b m ∧
    ∀ H' pl hd oc wl ll, Off a H H' → RunAt K H0 H' ⟨a, pl, hd, oc, wl, ll, ch, pn⟩ (iniS m) → Q .non H'
  | _ => False
theorem sc_Runner_init : FnScope ["self", "surroundings", "changes", "schedule"] ["self", "surroundings", "changes", "schedule"] (defScope s_Runner_init) := ⟨rfl, rfl, rfl, by decide +kernel, rfl, by decide +kernel, by decide +kernel⟩
theorem c_Runner_init (T : Top w K mg) : Mak P w K mg base CX0 9 "Runner" (He.ga K "Runner") (spRunInit K) := by
  refine mak_0 (f_Runner_init T) (mk_Runner T) (g_Runner T) sc_Runner_init (fun _ _ _ _ _ _ us hl => match us, hl with | [_, _, _, _], _ => rfl) (fun vs H Q E h => match vs, h with | [_, _, _, _], _ => rfl) (fun cdv A outer s H vs Q E hr h => ?_)
  match vs, h with
  | [x, y, z, u], h =>
  obtain ⟨a, dx, H0, b, m, ch, pn, rfl, rfl, rfl, rfl, ha, e0, na, sb, q⟩ := h
  refine ⟨_, (pss_cons (ps_fld (pv 0) (pe_op (op_addG (E := E0) (two_Surroundings_Change T) (o_Surroundings_add T).calm (fun _ _ _ _ _ _ _ h => h.elim) hr) (pv 1) (pmk (c_Change_init T) hr (pa_cons pe_dnewK pa_nil))) rfl)
    (pss_cons (ps_fld (pv 0) (pv 2) rfl)
    (pss_cons (ps_fld (pv 0) (pv 3) rfl)
    (pss_cons (ps_fld (pv 0) pe_dnewK rfl)
    (pss_cons (ps_fld (pv 0) (pmk (c_Outcome_init T) hr (pa_cons (pmt0 (c_Surroundings_state T) hr (pv 1)) pa_nil)) rfl)
    (pss_one (ps_fld (pv 0) pe_bl rfl))))))), ?_⟩
  refine ⟨_, rfl, fun d hd => ?_⟩
  intro x2 dx2 hx2 hdx2 hne2
  have mI := mk_in (C := He.ga K "Change") hx2 hdx2 hne2
  refine ⟨x2, dx2, d, [], rfl, rfl, upd_same, mI _ _ upd_same, ⟨fun _ h => by simp at h, List.nodup_nil⟩, Nat.zero_le _, Nat.zero_le _, fun H1 m2 off mp pm => ⟨rfl, ?_⟩⟩
  obtain rfl : m2 = [] := List.Perm.eq_nil pm
  have s1 : Same H H1 := (smNew1 hd _).trans (mk_sm hx2 hdx2 off)
  have sb1 := sb.keep s1
  obtain ⟨⟨db, pb, hb, _⟩, _⟩ := id sb1
  obtain ⟨dc, pc, hc, _⟩ := id mp
  refine ⟨b, x2, db, dc, _, _, rfl, rfl, hb, hc, b, x2, m, [], rfl, rfl, sb1, ⟨mp, Nat.zero_le _⟩, fun _ pl H2 s2 npl spl => ?_, fun k hk => by cases hk⟩
  obtain ⟨⟨dp, p, hpl, hp, okm, sm⟩, l1, l4⟩ := id spl
  have s12 := s1.trans s2
  have ha2 := s12 _ _ ha
  have npl0 : H0 pl = none := e0.free (s1.free npl)
  have apl : pl ≠ a := fun z => by rw [z, s1 _ _ ha] at npl; cases npl
  refine ⟨_, rfl, a, He.ga K "Runner", dx, _, rfl, ha2, k_Runner T, na_Runner_place T, (by show 0 < 1000; decide), ?_⟩
  refine ⟨_, rfl, _, rfl, a, He.ga K "Runner", dx, _, rfl, upd_same, k_Runner T, na_Runner_choices T, (by show 1 < 1000; decide), ?_⟩
  refine ⟨_, rfl, _, rfl, a, He.ga K "Runner", dx, _, rfl, upd_same, k_Runner T, na_Runner_plan T, (by show 2 < 1000; decide), ?_⟩
  obtain ⟨H5, e5⟩ : ∃ H5, H5 = upd (upd (upd H2 a (.ins (He.ga K "Runner") dx (putF "place" (.ref pl) []))) a (.ins (He.ga K "Runner") dx (putF "choices" (.ref ch) (putF "place" (.ref pl) [])))) a (.ins (He.ga K "Runner") dx (putF "plan" (.ref pn) (putF "choices" (.ref ch) (putF "place" (.ref pl) [])))) := ⟨_, rfl⟩
  have o5 : Off a H2 H5 := by rw [e5]; exact (off_upd.trans off_upd).trans off_upd
  have ha5 : H5 a = some (.ins (He.ga K "Runner") dx [("place", .ref pl), ("choices", .ref ch), ("plan", .ref pn)]) := by rw [e5, upd_same]; rfl
  rw [← e5]
  clear e5
  have n5 := off_none o5 ha5
  -- held
  refine fun hd hhd => ?_
  have ahd : a ≠ hd := ne_of_none ha5 hhd
  refine ⟨_, rfl, a, He.ga K "Runner", dx, _, rfl, by rw [upd_ne ahd]; exact ha5, k_Runner T, na_Runner_held T, (by show 3 < 1000; decide), ?_⟩
  obtain ⟨H6, e6⟩ : ∃ H6, H6 = upd (upd H5 hd (.dK [])) a (.ins (He.ga K "Runner") dx (putF "held" (.ref hd) [("place", .ref pl), ("choices", .ref ch), ("plan", .ref pn)])) := ⟨_, rfl⟩
  have o6 : Off a H5 H6 := by rw [e6]; exact (off_sm (smNew1 hhd _)).trans off_upd
  have ha6 : H6 a = some (.ins (He.ga K "Runner") dx [("place", .ref pl), ("choices", .ref ch), ("plan", .ref pn), ("held", .ref hd)]) := by rw [e6, upd_same]; rfl
  have hd6 : H6 hd = some (.dK []) := by rw [e6, upd_ne (Ne.symm ahd), upd_same]
  rw [← e6]
  clear e6
  have n6 := off_none o6 ha6
  -- outcome
  have o06 : Off a H H6 := ((off_sm s12).trans o5).trans o6
  have ba : b ≠ a := fun z => by
    have h1 := s1.trans s2
    have : H2 b = some (.ins (He.ga K "Surroundings") db [("now", .ref pb)]) := s2 _ _ hb
    rw [z, ha2] at this
    injection this with h3
    injection h3 with _ _ h4
    cases h4
  have sb6 : SurAt K H6 b m := by
    obtain ⟨⟨d1, q1, h1, h2, h3⟩, h4⟩ := id sb
    exact ⟨⟨d1, q1, o06 _ _ ba h1, o06 _ _ (fun z => by rw [z, ha] at h2; cases h2) h2, h3⟩, h4⟩
  obtain ⟨⟨db6, qb6, hb6, _⟩, _⟩ := id sb6
  refine ⟨_, rfl, b, db6, _, rfl, hb6, rfl, b, m, rfl, sb6.1, sb6.2.2, fun t H7 s7 ht7 => ?_⟩
  intro oc dq hoc hdq hne
  have mI7 := mk_in (C := He.ga K "Outcome") hoc hdq hne
  refine ⟨oc, dq, rfl, upd_same, fun H8 pt wl ll o8 oc8 pt8 wl8 ll8 nwl nll wll => ⟨rfl, ?_⟩⟩
  have s78 := mk_sm (C := He.ga K "Outcome") (H' := H8) hoc hdq (fun b u hb hu => o8 b u hb hu)
  have s68 := s7.trans s78
  have noc6 := s7.free hoc
  have ha8 := s68 _ _ ha6
  have aoc : a ≠ oc := ne_of_none ha6 noc6
  refine ⟨_, rfl, a, He.ga K "Runner", dx, _, rfl, ha8, k_Runner T, na_Runner_outcome T, (by show 4 < 1000; decide), ?_⟩
  refine ⟨_, rfl, a, He.ga K "Runner", dx, _, rfl, upd_same, k_Runner T, na_Runner_stopped T, (by show 5 < 1000; decide), ?_⟩
  obtain ⟨H9, e9⟩ : ∃ H9, H9 = upd (upd H8 a (.ins (He.ga K "Runner") dx (putF "outcome" (.ref oc) [("place", .ref pl), ("choices", .ref ch), ("plan", .ref pn), ("held", .ref hd)]))) a (.ins (He.ga K "Runner") dx (putF "stopped" (.bl false) (putF "outcome" (.ref oc) [("place", .ref pl), ("choices", .ref ch), ("plan", .ref pn), ("held", .ref hd)]))) := ⟨_, rfl⟩
  have o9 : Off a H8 H9 := by rw [e9]; exact off_upd.trans off_upd
  have ha9 : H9 a = some (.ins (He.ga K "Runner") dx [("place", .ref pl), ("choices", .ref ch), ("plan", .ref pn), ("held", .ref hd), ("outcome", .ref oc), ("stopped", .bl false)]) := by rw [e9, upd_same]; rfl
  rw [← e9]
  clear e9
  have o69 : Off a H6 H9 := (off_sm s68).trans o9
  have o09 : Off a H H9 := o06.trans o69
  have o29 : Off a H2 H9 := (o5.trans o6).trans o69
  have nH : ∀ c, H6 c = none → H0 c = none := fun c hc => e0.free (s12.free (n5 _ (n6 _ hc)))
  have n7 : ∀ c, H7 c = none → H6 c = none := fun c hc => s7.free hc
  have n87 : ∀ {c}, upd (upd H7 dq (.own oc)) oc (.ins (He.ga K "Outcome") dq []) c = none → H7 c = none := fun hc => mI7.free hc
  refine q H9 pl hd oc wl ll o09 ⟨⟨dx, dp, dq, p, pt, [.ref t], []⟩, ?_⟩
  have pa : p ≠ a := fun z => by rw [z, ha2] at hp; cases hp
  refine { sm := fun c u hc => ?_, fr := na, fp := npl0, fh := e0.free (s12.free (n5 _ hhd)), fo := nH _ noc6, fw := nH _ (n7 _ (n87 nwl)), fl := nH _ (n7 _ (n87 nll)), r := ha9, pl := o29 _ _ apl hpl, now := o29 _ _ pa hp, ph := ?_, held := o69 _ _ (Ne.symm ahd) hd6, oc := o9 _ _ (Ne.symm aoc) oc8, pt := ?_, wl := ?_, dw := ?_, ll := ?_, dl := .nil, wll := wll }
  · exact o09 _ _ (fun z => by rw [z, na] at hc; cases hc) (e0 _ _ hc)
  · exact ne_of_none (o5 _ _ pa hp) hhd
  · exact SqT.of (o9 _ _ (fun z : pt = a => by rw [z, ha8] at pt8; cases pt8) pt8)
  · exact o9 _ _ (fun z : wl = a => by rw [z, ha8] at wl8; cases wl8) wl8
  · refine .cons (st_dp ?_) .nil
    have t8 : H8 t = some (.tup (m.map fun q => V.int q.2)) := s78 _ _ ht7
    have : H9 t = some (.tup (m.map fun q => V.int q.2)) := o9 _ _ (fun z => by rw [z, ha8] at t8; cases t8) t8
    refine SqT.of ?_
    rw [this]
    unfold wVals
    rw [List.map_map]
    rfl
  · exact o9 _ _ (fun z : ll = a => by rw [z, ha8] at ll8; cases ll8) ll8
/-! ### run -/
/-- an outcome that tells of s -/
def OutAt (K : PySem.W.Frag) (H : Hp) (o : Addr) (s : RS) : Prop := ∃ dq pt wl ll pl ws ls, H o = some (.ins (He.ga K "Outcome") dq [("printed", .ref pt), ("went", .ref wl), ("looked", .ref ll), ("waits", .int (s.waits : Nat)), ("ended", .ref pl)]) ∧
  SqT K H pt (s.printed.map V.int) ∧ H wl = some (.lst ws) ∧ DpAll K H ws (s.went.map stD) ∧ H ll = some (.lst ls) ∧ DpAll K H ls (s.seen.map seenD) ∧ SurAt K H pl s.now ∧ s.went.length ≤ 1000 ∧ sz s ≤ 5000
theorem OutAt.keep {H H' : Hp} {o : Addr} {s : RS} (e : Same H H') (h : OutAt K H o s) : OutAt K H' o s :=
  let ⟨dq, pt, wl, ll, pl, ws, ls, h1, h2, h3, h4, h5, h6, h7, h8⟩ := h
  ⟨dq, pt, wl, ll, pl, ws, ls, e _ _ h1, smT e h2, e _ _ h3, DpAll.keep e h4, e _ _ h5, DpAll.keep e h6, h7.keep e, h8⟩
theorem kB_reads {ks : List Str} {l : List Stm} (h : ∀ k ∈ (readsOf l).map (·.2), k ∈ ks) : kB ks l = true := by
  refine kB_of ks l [] 0 fun q hq v k e => h k ?_
  refine List.mem_map.mpr ⟨(q.1, k), List.mem_filterMap.mpr ⟨q, hq, ?_⟩, rfl⟩
  unfold readOf
  rw [e]
theorem lackL_all {m : WM} {ks : List Str} (h : lackL m ks = none) : ∀ k ∈ ks, k ∈ wKeys m := fun k hk => by
  have := List.find?_eq_none.mp h k hk
  simpa using this
theorem lackA_none {m : WM} {ks : List Str} {gs : List WM} (h : lackA m ks gs = none) : (∀ k ∈ ks, k ∈ wKeys m) ∧ ∀ g ∈ gs, ∀ k ∈ wKeys g, k ∈ wKeys m := by
  unfold lackA at h
  cases e : lackL m ks with
  | some k => rw [e] at h; cases h
  | none =>
    rw [e] at h
    exact ⟨lackL_all e, fun g hg => lack_none (List.findSome?_eq_none_iff.mp h g hg)⟩
def spRun (K : PySem.W.Frag) : Sp := fun vs H Q E => match vs with
  | [x, y, z, u] => ∃ a l b m c cas gs p its plan, x = .ref a ∧ y = .ref b ∧ z = .ref c ∧ u = .ref p ∧ PrgAt K H a l ∧ wB l = true ∧ dB l ≤ 4 ∧ cB l ≤ 60 ∧ SurAt K H b m ∧ SqA K H c (cas.map V.ref) ∧ Paired (fun x g => ChgAt K H x g) cas gs ∧
    SqA K H p (its.map V.ref) ∧ Paired (fun a ns => SqA K H a (ns.map V.int)) its plan ∧ plan.flatten.length ≤ 900 ∧
    ∀ ks, RM.KeysOf ks ((readsOf l).map (·.2)) →
      (lackA m ks gs = none → offP gs.length plan = none → ∀ o H', Same H H' → H o = none → OutAt K H' o (goB ⟨gs, plan⟩ [] 0 l (iniS m)) → Q (.ref o) H') ∧
      (∀ k, lackA m ks gs = some k → ∀ d H', Same H H' → H' d = some (.xd [("key", .str k)]) → E (.ref (He.ga K "NoKey")) (some d) H') ∧
      (lackA m ks gs = none → ∀ i : Nat, offP gs.length plan = some i → ∀ d H', Same H H' → H' d = some (.xd [("item", .int (i : Int))]) → E (.ref (He.ga K "BadSchedule")) (some d) H')
  | _ => False
theorem off_in {n : Nat} {plan : List (List Int)} (h : offP n plan = none) : ∀ it ∈ plan, ∀ i ∈ it, 0 ≤ i ∧ i < (n : Int) := fun it hit i hi => by
  have h1 := List.findIdx?_eq_none_iff.mp h it hit
  have h2 := List.any_eq_false.mp h1 i hi
  by_cases h0 : 0 ≤ i
  · by_cases h3 : i < (n : Int)
    · exact ⟨h0, h3⟩
    · rw [decide_eq_false h3, Bool.and_false] at h2
      exact absurd rfl h2
  · rw [decide_eq_false h0] at h2
    exact absurd rfl h2
theorem sc_run : FnScope ["program", "surroundings", "changes", "schedule", "runner"] ["program", "surroundings", "changes", "schedule"] (defScope s_run) := ⟨rfl, rfl, rfl, by decide +kernel, rfl, by decide +kernel, by decide +kernel⟩
theorem b_run (T : Top w K mg) : BodyX P w K mg base ["program", "surroundings", "changes", "schedule", "runner"] "run" s_run (He.ga K "run") 19 (spRun K) := by
  intro cdv A outer s H vs Q E hr h
  match vs, h with
  | [x, y, z, u], h =>
  obtain ⟨a, l, b, m, c, cas, gs, p, its, plan, rfl, rfl, rfl, rfl, pa, wl', hd', hc, sb, hcs, pcs, hp, pp, fl, q⟩ := h
  have sm : (wKeys m).Nodup := sb.ok.1.2
  refine ⟨_, (pss_cons (ps_expr (pcX (takes_of rfl rfl rfl rfl) (c_check_keys T) hr (pa_cons (pv 0) (pa_cons (pv 1) (pa_cons (pv 2) pa_nil)))))
    (pss_cons (ps_expr (pcX (takes_of rfl rfl rfl rfl) (c_check_schedule T) hr (pa_cons (pv 2) (pa_cons (pv 3) pa_nil))))
    (pss_cons (ps_set (i := 4) sc_run.nd rfl (Or.inl rfl) (pmk (c_Runner_init T) hr (pa_cons (pv 1) (pa_cons (pv 2) (pa_cons (pv 3) pa_nil)))))
    (pss_cons (ps_expr (pmt (c_execute T 4) hr (pv 4) (pa_cons (pe_fld (pv 0) rfl) (pa_cons (pe_tup pa_nil) pa_nil))))
    (pss_cons (ps_fld (pe_fld (pv 4) rfl) (pe_fld (pv 4) rfl) rfl)
    (pss_one (ps_ret (pe_fld (pv 4) rfl)))))))), ?_⟩
  refine ⟨_, rfl, _, rfl, _, rfl, a, l, b, m, c, cas, gs, rfl, rfl, rfl, pa, hd', by omega, sb, hcs, pcs, fun ks hks => ⟨fun nl H1 e1 => ?_, fun k hk d H' e hd => (q ks hks).2.1 k hk d H' e hd⟩⟩
  have lc : (cas.map V.ref).length = gs.length := by rw [List.length_map]; exact pcs.length
  obtain ⟨nk, ng⟩ := lackA_none nl
  refine ⟨_, rfl, _, rfl, c, _, p, its, plan, rfl, rfl, sqA_sm e1 hcs, sqA_sm e1 hp, paired_mono pp fun _ _ h => sqA_sm e1 h, fun no H2 e2 => ?_, fun i hi d H' e hd => (q ks hks).2.2 nl i (by rw [lc] at hi; exact hi) d H' (e1.trans e) hd⟩
  rw [lc] at no
  have e12 := e1.trans e2
  refine ⟨_, rfl, _, rfl, _, rfl, ?_⟩
  intro x dx hx hdx hne
  have mI := mk_in (C := He.ga K "Runner") hx hdx hne
  refine ⟨x, dx, H2, b, m, c, p, rfl, rfl, rfl, rfl, upd_same, mI, hx, sb.keep (e12.trans mI), fun H3 pl hd oc wl ll off R => ⟨rfl, ?_⟩⟩
  obtain ⟨W, R⟩ := R
  obtain ⟨dp, v, ha, hv⟩ := pa.keep (e12.trans R.sm)
  obtain ⟨dp', v', ha', hv'⟩ := pa.keep e12
  have ev : v' = v := by
    have := R.sm _ _ ha'
    rw [ha] at this
    injection this with h1
    injection h1 with _ _ h2
    injection h2 with h3
    injection h3 with _ h4
    exact h4.symm
  subst ev
  have lm : (wKeys m).length = m.length := List.length_map ..
  have EO : EOk ⟨gs, plan⟩ (wKeys m) := ⟨fun g hg => ⟨(let ⟨_, _, h⟩ := paired_mem pcs g hg; h.ok.1), ng g hg⟩, off_in no, sb.ok.2, by rw [lm]; exact sb.2.1, by rw [lm]; exact sb.2.2⟩
  have VE : EnvAt K H2 ⟨x, pl, hd, oc, wl, ll, c, p⟩ ⟨gs, plan⟩ (wKeys m) := ⟨⟨cas, sqA_sm e12 hcs, paired_mono pcs fun _ _ h => h.keep e12⟩, ⟨its, sqA_sm e12 hp, paired_mono pp fun _ _ h => sqA_sm e12 h⟩, EO⟩
  have kk : ROk ⟨gs, plan⟩ (wKeys m) (iniS m) := ⟨sb.ok.1, rfl, Nat.le_refl 1, by show 1 + plan.flatten.length ≤ 1000; omega⟩
  refine ⟨_, rfl, x, W.dr, _, rfl, R.r, rfl, _, rfl, a, _, dp, _, _, rfl, ha, k_Program T, na_Program_body T, rfl, (by show 0 ≤ sizeLine; decide), fun p1 hp1 => ?_⟩
  have nb := nB_most wl' hd' hc
  refine ⟨H2, _, _, _, _, l, [], rfl, ⟨W, R.keep (smNew1 hp1 _)⟩, VE, kk, hv', path0 (SqT.of upd_same), hd', kB_reads fun k hk => nk k ((hks.2.2 k).mpr hk), wl', by show 0 + 2 * nB l ≤ 5000; omega, by show 0 + 2 * 4 ≤ 900; omega, fun H5 R5 k5 ts => ?_⟩
  obtain ⟨W5, R5⟩ := R5
  refine ⟨_, rfl, x, _, W5.dr, _, _, rfl, R5.r, k_Runner T, na_Runner_place T, rfl, _, rfl, x, _, W5.dr, _, _, rfl, R5.r, k_Runner T, na_Runner_outcome T, rfl, oc, He.ga K "Outcome", W5.dq, _, rfl, R5.oc, k_Outcome T, na_Outcome_ended T, (by show 5 < 1000; decide), ?_⟩
  refine ⟨_, rfl, x, _, W5.dr, _, _, rfl, upd_tg R5.r R5.oc (by simp [tg]), k_Runner T, na_Runner_outcome T, rfl, ?_⟩
  have s5 := R5.sur k5 EO
  have ts5 := ts_upd (K := K) (.ins (He.ga K "Outcome") W5.dq (putF "ended" (.ref pl) [("printed", .ref W5.pt), ("went", .ref wl), ("looked", .ref ll), ("waits", .int ((goB ⟨gs, plan⟩ [] 0 l (iniS m)).waits : Nat)), ("ended", .non)])) R5.oc trivial
  refine (q ks hks).1 nl no oc _ (e12.trans (smOut R5.sm R5.fo _)) (e12.free R5.fo) ⟨W5.dq, W5.pt, wl, ll, pl, W5.ws, W5.ls, ?_, ts5 _ _ R5.pt, upd_tg R5.wl R5.oc (by simp [tg]), dps_ts ts5 R5.dw (noLs_sts _), upd_tg R5.ll R5.oc (by simp [tg]), dps_ts ts5 R5.dl (noLs_seen _), ⟨⟨W5.dp, W5.p, upd_tg R5.pl R5.oc (by simp [tg]), upd_tg R5.now R5.oc (by simp [tg]), ?_⟩, s5.2⟩, by have := k5.room; omega, by have := sz_B ⟨gs, plan⟩ l [] 0 (iniS m); have z0 : sz (iniS m) = 0 := rfl; omega⟩
  · rw [upd_same]
    rfl
  · obtain ⟨⟨_, _, _, _, o1, o2⟩, _⟩ := s5
    exact ⟨o1, o2⟩
theorem f_run_all (T : Top w K mg) : ∃ fd, FnOk P w K mg base (L2.CX P w) 20 (He.ga K "run") fd ["program", "surroundings", "changes", "schedule"] (spRun K) ∧ PySem.W.keepIn K (.ref (He.ga K "run")) = true ∧ Binds K fd ["program", "surroundings", "changes", "schedule"] [] ∧
    ∃ ds, Vals [V.ref (He.dflAt ("run", none) 0 K), V.ref (He.dflAt ("run", none) 1 K)] ds ∧ Binds K fd ["program", "surroundings", "changes", "schedule"] ds := by
  obtain ⟨fd, F⟩ := f_run T
  refine ⟨fd, F.ok sc_run (fun vs H Q E h => match vs, h with | [_, _, _, _], _ => rfl) (b_run T), F.kp, ?_, ?_⟩
  · obtain ⟨ds, h1, h2⟩ := F.binds1 (ps := ["program", "surroundings", "changes", "schedule"]) 4 2 (by simp) rfl fun T kV doc pm an cdv ct us its h1 h2 => match us, its, h1, h2 with | [_, _, _, _], [_, _], _, _ => ⟨_, rfl, rfl⟩
    cases h1
    exact h2
  · exact F.binds1 (ps := ["program", "surroundings", "changes", "schedule"]) 2 0 (by simp) rfl fun T kV doc pm an cdv ct us its h1 h2 => match us, its, h1, h2 with | [_, _], [_, _], _, _ => ⟨_, rfl, rfl⟩
end
end RM

set_option Elab.async false
set_option linter.all false
set_option maxRecDepth 100000
set_option maxHeartbeats 4000000
set_option pp.maxSteps 600
set_option pp.deepTerms false
namespace RM
open PySem PySem.Spec PyProof.Rows L2
section
variable {P : Program} {w : World} {K : PySem.W.Frag} {mg : Str → Option Value} {base : Heap}
theorem c_run (T : Top w K mg) : Cal P w K mg base (L2.CX P w) 20 "run" (spRun K) :=
  let ⟨fd, F, kp, B, _⟩ := f_run_all T
  ⟨_, fd, _, F, g_run T, kp, B⟩
/-! ### == of surroundings that are equal -/
def spSEq (K : PySem.W.Frag) : Sp := fun vs H Q _ => match vs with
  | [x, y] => ∃ a b m, x = .ref a ∧ y = .ref b ∧ SurAt K H a m ∧ SurAt K H b m ∧ Q (.bl true) H
  | _ => False
theorem sc_Surroundings_eq : FnScope ["self", "other"] ["self", "other"] (defScope s_Surroundings_eq) := ⟨rfl, rfl, rfl, by decide +kernel, rfl, by decide +kernel, by decide +kernel⟩
theorem o_Surroundings_eq (T : Top w K mg) : Own P w K mg base 1 (He.ga K "Surroundings") "__eq__" (spSEq K) := by
  refine own_0 (f_Surroundings_eq T) (spc_Surroundings_eq T) sc_Surroundings_eq (fun _ _ _ _ _ _ us hl => match us, hl with | [_, _], _ => rfl) (fun vs H Q E h => match vs, h with | [_, _], _ => rfl) (fun cdv A outer s H vs Q E hr h => ?_)
  match vs, h with
  | [x, y], h =>
  obtain ⟨a, b, m, rfl, rfl, ⟨⟨dx, p, ha, hp, okm, sm⟩, l1, l4⟩, ⟨⟨dy, p2, hb, hp2, _, _⟩, _, _⟩, q⟩ := h
  refine ⟨_, (pss_cons (ps_if (pt_not (pt_val (pcb (z_isinstance T) call_isi boot_isinstance (pa_cons (pv 1) (pa_cons (pglR (g_Surroundings T)) pa_nil)))))
      (pss_one ps_never)
      pss_nil)
    (pss_one (ps_ret (pe_cmpR (op_eq_dictA (room0 hr)) (pe_fld (pv 0) rfl) (pe_fld (pv 1) rfl) (nomark _))))), ?_⟩
  refine ⟨_, rfl, _, _, _, _, true, rfl, .own _, .base (insB_ty (ins_Surroundings T) (k_Surroundings T) hb), kitC_ok (kit_Surroundings_Surroundings T), ?_⟩
  refine ⟨_, rfl, ifF rfl ?_⟩
  refine ⟨_, rfl, a, _, dx, _, _, rfl, ha, k_Surroundings T, na_Surroundings_now T, rfl, _, rfl, b, _, dy, _, _, rfl, hb, k_Surroundings T, na_Surroundings_now T, rfl, ?_⟩
  refine ⟨p, p2, mK m, mK m, rfl, rfl, hp, hp2, rfl, fun q hq => ?_, q⟩
  obtain ⟨z, hz, rfl⟩ := List.mem_map.mp hq
  exact ⟨valV_mK okm.2 z hz, rfl⟩
/-! ### Change + Change -/
def spAddC (K : PySem.W.Frag) : Sp := fun vs H Q _ => match vs with
  | [x, y] => ∃ a b g g2, x = .ref a ∧ y = .ref b ∧ ChgAt K H a g ∧ ChgAt K H b g2 ∧ (wOver g g2).length ≤ 4 ∧ ∀ p g3 H', Same H H' → H p = none → ChgAt K H' p g3 → g3.Perm (wOver g g2) → Q (.ref p) H'
  | _ => False
theorem sc_Change_add : FnScope ["self", "other"] ["self", "other"] (defScope s_Change_add) := ⟨rfl, rfl, rfl, by decide +kernel, rfl, by decide +kernel, by decide +kernel⟩
theorem o_Change_add (T : Top w K mg) : OwnC P w K mg base CX0 6 (He.ga K "Change") "__add__" (spAddC K) := by
  refine own_C0 (f_Change_add T) (spc_Change_add T) sc_Change_add (fun _ _ _ _ _ _ us hl => match us, hl with | [_, _], _ => rfl) (fun vs H Q E h => match vs, h with | [_, _], _ => rfl) (fun cdv A outer s H vs Q E hr h => ?_)
  match vs, h with
  | [x, y], h =>
  obtain ⟨a, b, g, g2, rfl, rfl, ca, cb, hl, q⟩ := h
  obtain ⟨⟨dx, p, ha, hp, okg, sg⟩, lg⟩ := id ca
  obtain ⟨⟨dy, p2, hb, hp2, okg2, sg2⟩, lg2⟩ := id cb
  refine ⟨_, (pss_cons (ps_if (pt_not (pt_val (pcb (z_isinstance T) call_isi boot_isinstance (pa_cons (pv 1) (pa_cons (pglR (g_Change T)) pa_nil)))))
      (pss_one ps_never)
      pss_nil)
    (pss_one (ps_ret (pmk (c_Change_init T) hr (pa_cons (pe_star2 (pe_fld (pv 0) rfl) (pe_fld (pv 1) rfl)) pa_nil))))), ?_⟩
  refine ⟨_, rfl, _, _, _, _, true, rfl, .own _, .base (insB_ty (ins_Change T) (k_Change T) hb), kitC_ok (kit_Change_Change T), ?_⟩
  refine ⟨_, rfl, ifF rfl ?_⟩
  refine fun r nr => ?_
  have ra : a ≠ r := ne_of_none ha nr
  have rb : b ≠ r := ne_of_none hb nr
  have rp : p ≠ r := ne_of_none hp nr
  have rp2 : p2 ≠ r := ne_of_none hp2 nr
  have e1 : mergeK [] (mK g) = mK g := merge_nil okg.2
  refine ⟨_, rfl, a, _, dx, _, _, rfl, by rw [upd_ne ra]; exact ha, k_Change T, na_Change_given T, rfl, p, mK g, rfl, rp, upd_same, .of (by rw [upd_ne rp]; exact hp), ?_⟩
  refine ⟨_, rfl, b, _, dy, _, _, rfl, by rw [upd_ne rb, upd_ne rb]; exact hb, k_Change T, na_Change_given T, rfl, p2, mK g2, mK g, rfl, rp2, by rw [upd_same, e1], .of (by rw [upd_ne rp2, upd_ne rp2]; exact hp2), ?_, ?_⟩
  · show (g.map _).length + (g2.map _).length ≤ _
    rw [List.length_map, List.length_map]
    exact Nat.le_of_lt (small1000 (by omega))
  intro x dx2 hx hdx hne
  have mI := mk_in (C := He.ga K "Change") hx hdx hne
  refine ⟨x, dx2, r, wOver g g2, rfl, rfl, upd_same, mI _ _ (by rw [upd_same, mergeK_w]), okM_over okg okg2.1, Nat.zero_le _, hl, fun H' m2 off mp pm => ⟨rfl, ?_⟩⟩
  have s1 : Same H (upd (upd (upd H r (.dK [])) r (.dK (mergeK [] (mK g)))) r (.dK (mergeK (mK g) (mK g2)))) := fun c u hc => by
    have := ne_of_none hc nr
    rw [upd_ne this, upd_ne this, upd_ne this]
    exact hc
  exact q x m2 H' (s1.trans (mk_sm hx hdx off)) (s1.free hx) ⟨mp, by rw [pm.length_eq]; exact hl⟩ pm
end
end RM

set_option Elab.async false
set_option linter.all false
set_option maxRecDepth 100000
set_option maxHeartbeats 4000000
/-! run with two arguments: the defaults are empty tuples -/
namespace RM
open PySem PySem.Spec PyProof.Rows L2
section
variable (P : Program) (w : World) (K : PySem.W.Frag) (mg : Str → Option Value) (base : Heap) (CX : CXT)
/-- a def called with fewer arguments: dvs fill up -/
def CalD (k : Nat) (x : Str) (dvs : List V) (sp : Sp) : Prop :=
  ∃ (f : Addr) (fd : FuncData) (ps : List Str) (ds : List Value), FnOk P w K mg base CX k f fd ps sp ∧ mg x = some (.ref f) ∧ PySem.W.keepIn K (.ref f) = true ∧ Binds K fd ps ds ∧ Vals dvs ds
end
section
variable {P : Program} {w : World} {K : PySem.W.Frag} {mg : Str → Option Value} {base : Heap} {k : Nat} {x : Str} {dvs : List V} {sp : Sp}
theorem CalD.calm (c : CalD P w K mg base (L2.CX P w) k x dvs sp) : CalD P w K mg base CX0 k x dvs (fun vs H Q _ => sp vs H Q E0) := let ⟨f, fd, ps, ds, F, a⟩ := c; ⟨f, fd, ps, ds, fn_calm F, a⟩
theorem c_run2 (T : Top w K mg) : CalD P w K mg base (L2.CX P w) 20 "run" [V.ref (He.dflAt ("run", none) 0 K), V.ref (He.dflAt ("run", none) 1 K)] (spRun K) :=
  let ⟨fd, F, kp, _, ds, v, b⟩ := f_run_all T
  ⟨_, fd, _, ds, F, g_run T, kp, b, v⟩
theorem dfl0 (T : Top w K mg) (H : Hp) : SqA K H (He.dflAt ("run", none) 0 K) (([] : List Addr).map V.ref) := .inr (empB_ok (emp_run_0 T) H)
theorem dfl1 (T : Top w K mg) (H : Hp) : SqA K H (He.dflAt ("run", none) 1 K) (([] : List Addr).map V.ref) := .inr (empB_ok (emp_run_1 T) H)
end
section
variable {X : Cx} {k j : Nat} {x : Str} {sp : Sp} {dvs : List V} {p pos : Pos} {e : Expr} {es : List Expr} {t : TA}
theorem pcD (c : CalD X.prog X.w X.K X.mg X.base CX0 k x dvs sp) (hr : Room j X.A) (ha : PA X (e :: es) t) (hk : k ≤ j := by omega) (hg : Gl X x := by rfl)
    (hpl : (backTo pos (starEach es X.env)).any (·.1) = false := by rfl) (he : starEach (e :: es) X.env = (false, eval e X.env) :: starEach es X.env := by rfl) (hdb : (x == ("__debug__" : Str)) = false := by decide) :
    PE X (.Call (.Name x p) (e :: es) [] pos) (tCall sp dvs E0 t) := by
  obtain ⟨f, fd, ps, ds, F, hm, kp, b, v⟩ := c
  exact pe_call F (hr.mono hk) hg hm kp b v (fun _ _ _ _ _ _ _ h => h.elim) ha hdb he hpl
end
end RM

set_option Elab.async false
set_option linter.all false
set_option maxRecDepth 100000
set_option maxHeartbeats 2000000
namespace RM
open PySem PySem.Spec PyProof.Rows L2
/-! every key that is read is known; lengths -/
mutual
theorem reads_S (ks : List Str) : ∀ (st : Stm) (p : List Int), kS ks st = true → ∀ q ∈ aS p st, ∀ v k, q.2 = .read v k → k ∈ ks
  | .read v k, p, h, q, hq, v', k', e => by
    simp [aS] at hq
    subst hq
    injection e with _ e2
    rw [← e2]
    rw [kS] at h
    exact of_decide_eq_true h
  | .set _ _, p, h, q, hq, v', k', e => by simp [aS] at hq; subst hq; cases e
  | .copy _ _, p, h, q, hq, v', k', e => by simp [aS] at hq; subst hq; cases e
  | .print _, p, h, q, hq, v', k', e => by simp [aS] at hq; subst hq; cases e
  | .say _, p, h, q, hq, v', k', e => by simp [aS] at hq; subst hq; cases e
  | .wait, p, h, q, hq, v', k', e => by simp [aS] at hq; subst hq; cases e
  | .stop, p, h, q, hq, v', k', e => by simp [aS] at hq; subst hq; cases e
  | .ite v n a b, p, h, q, hq, v', k', e => by
    rw [kS, Bool.and_eq_true] at h
    rw [aS, List.mem_cons, List.mem_append] at hq
    rcases hq with rfl | hq | hq
    · cases e
    · exact reads_B ks a _ _ h.1 q hq v' k' e
    · exact reads_B ks b _ _ h.2 q hq v' k' e
  | .same v n a b, p, h, q, hq, v', k', e => by
    rw [kS, Bool.and_eq_true] at h
    rw [aS, List.mem_cons, List.mem_append] at hq
    rcases hq with rfl | hq | hq
    · cases e
    · exact reads_B ks a _ _ h.1 q hq v' k' e
    · exact reads_B ks b _ _ h.2 q hq v' k' e
  | .rep n a, p, h, q, hq, v', k', e => by
    rw [kS] at h
    rw [aS, List.mem_cons] at hq
    rcases hq with rfl | hq
    · cases e
    · exact reads_B ks a _ _ h q hq v' k' e
theorem reads_B (ks : List Str) : ∀ (l : List Stm) (p : List Int) (i : Nat), kB ks l = true → ∀ q ∈ aB p i l, ∀ v k, q.2 = .read v k → k ∈ ks
  | [], p, i, h, q, hq, v', k', e => by simp [aB] at hq
  | s :: r, p, i, h, q, hq, v', k', e => by
    rw [kB, Bool.and_eq_true] at h
    rw [aB, List.mem_append] at hq
    rcases hq with hq | hq
    · exact reads_S ks s _ h.1 q hq v' k' e
    · exact reads_B ks r _ _ h.2 q hq v' k' e
end
theorem flat_le {c : Nat} : ∀ {l : List (List Int)}, (∀ it ∈ l, it.length ≤ c) → l.flatten.length ≤ l.length * c
  | [], _ => by simp
  | it :: r, h => by
    have h1 := h it List.mem_cons_self
    have h2 := flat_le (l := r) fun x hx => h x (List.mem_cons_of_mem _ hx)
    rw [List.flatten_cons, List.length_append, List.length_cons, Nat.succ_mul]
    omega
theorem keys_over_sub {a b : WM} (nb : (wKeys b).Nodup) {k : Str} (h : k ∈ wKeys (wOver a b)) : k ∈ wKeys a ∨ k ∈ wKeys b := by
  by_cases ha : k ∈ wKeys a
  · exact .inl ha
  · refine .inr ?_
    by_cases hb : k ∈ wKeys b
    · exact hb
    · exfalso
      refine wGet_none.mp ?_ h
      rw [wGet_over nb, wGet_none.mpr ha, wGet_none.mpr hb]
      rfl
end RM

set_option Elab.async false
set_option linter.all false
set_option maxRecDepth 100000
set_option maxHeartbeats 4000000
set_option pp.maxSteps 600
set_option pp.deepTerms false
namespace RM
open PySem PySem.Spec PyProof.Rows L2
theorem reads_in {l : List Stm} {kv ks : List Str} (kl : kB kv l = true) (hks : RM.KeysOf ks ((readsOf l).map (·.2))) : ∀ k ∈ ks, k ∈ kv := fun k hk => by
  obtain ⟨⟨pth, k'⟩, hq, rfl⟩ := List.mem_map.mp ((hks.2.2 k).mp hk)
  unfold readsOf at hq
  obtain ⟨q0, hq0, e⟩ := List.mem_filterMap.mp hq
  unfold readOf at e
  split at e
  · rename_i v k2 e2
    injection e with e
    injection e with _ e4
    rw [← e4]
    exact reads_B _ l _ _ kl q0 hq0 v k2 e2
  · cases e
/-- what is printed if nothing changes -/
def froz (l : List Stm) (m : WM) : List Int := (goB ⟨[], []⟩ [] 0 l (iniS m)).printed
end RM

set_option Elab.async false
set_option linter.all false
set_option maxRecDepth 100000
set_option maxHeartbeats 2000000
namespace RM
open PySem PySem.Spec PyProof.Rows L2
section
variable {P : Program} {w : World} {K : PySem.W.Frag} {mg : Str → Option Value} {base : Heap}
/-! ### names_in -/
def spNames (K : PySem.W.Frag) : Sp := fun vs H Q _ => match vs with
  | [x] => ∃ (s : Stm), Dp K H x (encS false s) ∧
    ∀ p H', Same H H' → H p = none → H' p = some (.lst (s.names.map V.str)) → Q (.ref p) H'
  | _ => False
theorem sc_names_in : FnScope ["statement", "item", "sign"] ["statement"] (defScope s_names_in) := ⟨rfl, rfl, rfl, by decide +kernel, rfl, by decide +kernel, by decide +kernel⟩
theorem c_names_in (T : Top w K mg) : Cal P w K mg base CX0 1 "names_in" (spNames K) := by
  refine cal_0 (f_names_in T) (g_names_in T) sc_names_in (fun _ _ _ _ _ _ us hl => match us, hl with | [_], _ => rfl) (fun vs H Q E h => match vs, h with | [_], _ => rfl) (fun cdv A outer s H vs Q E hr h => ?_)
  match vs, h with
  | [x], h =>
  obtain ⟨s, hd, q⟩ := h
  obtain ⟨a, xs, rfl, ha, hx⟩ := shape_of hd
  have hl : xs.length = s.form.cps.size := ShapeS.items hx
  have i4 := form_five s
  refine ⟨_, (pss_cons (ps_if (pt_cmpR op_eq (pe_ix ix_tup (pv 0) pe_int (fun _ _ => rfl)) pe_str (nomark _))
      (pss_one (ps_ret (pe_lst (pa_cons (pe_ix ix_tup (pv 0) pe_int (fun _ _ => rfl)) pa_nil))))
      pss_nil)
    (pss_one (ps_ret (pe_lc (own := [("item", 1), ("sign", 2)]) rfl sc_names_in.nd (pi_zipTS (by rfl) (z_zip T) (pa_cons (pe_slice sl_tup (pv 0) (po_some pe_int) po_none) (pa_cons (pe_ix ix_kdict (pglR (g_FORMS T)) (pe_ix ix_tup (pv 0) pe_int (fun _ _ => rfl)) (fun _ _ => rfl)) pa_nil))) (blkOk_by (own := [("item", 1), ("sign", 2)]) (N := ["statement", "item", "sign"]) (sc := defScope s_names_in) (by decide +kernel)) (fun _ _ _ _ _ => (pg_tup' (n := 2) (K := K) rfl rfl (pgs_cons (pg_name (i := 1) sc_names_in.nd rfl (Or.inl rfl) (Or.inr rfl)) (pgs_cons (pg_name (i := 2) sc_names_in.nd rfl (Or.inl rfl) (Or.inr rfl)) pgs_nil)) rfl rfl)) (fun _ _ _ _ _ => (pts_one (pt_cmpR op_eq (pv 2) pe_str (nomark _)))) (fun _ _ _ _ _ => (pv 1)))))), ?_⟩
  refine ⟨_, rfl, _, _, _, _, rfl, rfl, ha, at0, rfl, _, rfl, ?_⟩
  by_cases hw : s.word = "read"
  · obtain ⟨v, k, rfl⟩ := (word_read s).mp hw
    refine ifT (decide_eq_true (congrArg V.str hw)) ?_
    obtain ⟨v1, r1, rfl, h1, h2⟩ := DpAll.cons_inv hx
    obtain rfl := Dp.str_inv h1
    refine ⟨_, rfl, _, _, _, _, rfl, rfl, ha, at1, (by show 1 ≤ sizeLine; decide), fun p hp => ?_⟩
    exact q p _ (smNew1 hp _) hp upd_same
  · refine ifF (decide_eq_false fun e => hw (V.str.inj e)) ?_
    refine ⟨_, rfl, _, rfl, _, _, rfl, ha, cut_not, fun p hp => ?_⟩
    rw [cut_tail]
    have s1 : Same H (upd H p (.tup xs)) := smNew1 hp _
    refine ⟨_, rfl, _, _, _, _, rfl, rfl, smT s1 ha, at0, _, _, _, rfl, rfl, kd_form T s, ?_⟩
    refine ⟨_, xs, _, rfl, SqT.of upd_same, fun D nD => ?_⟩
    have hDn : H D = none := s1.free nD
    refine lc_opt (walk_zipTS hl) (fun (d : PyData) y _ => Dp K H y d) (fun i => if s.signs[i]? = some 107 then (s.flats ++ s.bodies.map fun b => seqD false (encB false b))[i]? else none) nD (small1000 (by omega)) (fun H' e => smT e (SqT.of upd_same)) (fun _ _ _ _ h _ => h) (fun _ _ _ _ _ h _ => h) ?_ ?_
    · rintro i x H1 H2 N hi e ⟨t, y, z, rfl, ht, rfl, hy, hz⟩ hk hno
      obtain ⟨c, hc, rfl⟩ := Option.map_eq_some_iff.mp hz
      have hs := sign_at hc
      refine ⟨t, _, rfl, SqT.of upd_same, rfl, _, _, rfl, _, _, rfl, rfl, rfl, _, rfl, ?_⟩
      obtain ⟨d, hd1, hd2⟩ := DpAll.getV hx hy
      by_cases c107 : c = 107
      · subst c107
        refine ⟨rfl, _, rfl, ifT (by rw [str_k, sgn]; rfl) ?_⟩
        exact ⟨_, rfl, hk _ _ d (by rw [hs, if_pos rfl]; exact hd1) (smNew1 ht _) hd2⟩
      · refine ⟨rfl, _, rfl, ifF (by rw [str_k, sgn]; exact decide_eq_false c107) ?_⟩
        exact hno (by rw [hs, if_neg (fun z => c107 (Option.some.inj z))]) _ (smNew1 ht _)
    · intro H' ys e hD hp'
      have e2 : xs.length = (s.flats ++ s.bodies.map fun b => seqD false (encB false b)).length := DpAll.len hx
      rw [e2, names_sel s _ (fun v k z => hw ((word_read s).mpr ⟨v, k, z⟩))] at hp'
      have hys := strs_inv (paired_dp hp')
      rw [hys] at hD
      exact q D H' (fun b o z => e _ _ (s1 b o z)) hDn hD
end
end RM

set_option Elab.async false
set_option linter.all false
set_option maxRecDepth 100000
set_option maxHeartbeats 2000000
namespace RM
open PySem PySem.Spec PyProof.Rows L2
section
variable {P : Program} {w : World} {K : PySem.W.Frag} {mg : Str → Option Value} {base : Heap}
def namesOf (l : List Stm) : List Str := (aB [] 0 l).flatMap fun q => q.2.names
def spVars (K : PySem.W.Frag) : Sp := fun vs H Q _ => match vs with
  | [x] => ∃ a l, x = .ref a ∧ PrgAt K H a l ∧ dB l ≤ 4 ∧ cB l ≤ 400 ∧
    ∀ ks p H', Same H H' → H' p = some (.tup (ks.map V.str)) → RM.KeysOf ks (namesOf l) → Q (.ref p) H'
  | _ => False
theorem names_len (s : Stm) : s.names.length ≤ 2 := by cases s <;> simp [Stm.names]
theorem sc_Program_variables : FnScope ["self", "path", "one", "name"] ["self"] (defScope s_Program_variables) := ⟨rfl, rfl, rfl, by decide +kernel, rfl, by decide +kernel, by decide +kernel⟩
theorem c_Program_variables (T : Top w K mg) : Met P w K mg base CX0 6 (He.ga K "Program") "variables" (spVars K) := by
  refine met_0 (f_Program_variables T) (k_Program T) (me_Program_variables T) sc_Program_variables (fun _ _ _ _ _ _ us hl => match us, hl with | [_], _ => rfl) (fun vs H Q E h => match vs, h with | [_], _ => rfl) (fun cdv A outer s H vs Q E hr h => ?_)
  match vs, h with
  | [x], h =>
  obtain ⟨a, l, rfl, ⟨dx, v, ha, hv⟩, hd, hc, q⟩ := h
  refine ⟨_, (pss_one (ps_ret (pct (z_tuple T) call_tuple_of boot_tuple (pa_cons (pcb (z_sorted T) (cr_sortX rfl) boot_sorted (pa_cons (pe_scX2 (own := [("path", 1), ("one", 2), ("name", 3)]) rfl sc_Program_variables.nd (pi_seqA (pc (c_all_statements T 4) hr (pa_cons (pe_fld (pv 0) rfl) (pa_cons (pe_tup pa_nil) pa_nil)))) (blkOk_by (own := [("path", 1), ("one", 2), ("name", 3)]) (N := ["self", "path", "one", "name"]) (sc := defScope s_Program_variables) (by decide +kernel)) (vs1 := [3]) (by decide) (fun _ _ _ _ _ => (pg_tup' (n := 2) (K := K) rfl rfl (pgs_cons (pg_name (i := 1) sc_Program_variables.nd rfl (Or.inl rfl) (Or.inr rfl)) (pgs_cons (pg_name (i := 2) sc_Program_variables.nd rfl (Or.inl rfl) (Or.inr rfl)) pgs_nil)) rfl rfl)) (fun _ _ _ _ _ => pts_nil) (fun _ _ _ _ _ => (pi_seqA' (K := K) rfl (pc (c_names_in T) hr (pa_cons (pv 2) pa_nil)))) (fun _ _ _ _ _ => (pg_name (i := 3) sc_Program_variables.nd rfl (Or.inl rfl) (Or.inr rfl))) (fun _ _ _ _ _ => pts_nil) (fun _ _ _ _ _ => (pv 3))) pa_nil)) pa_nil)))), ?_⟩
  refine ⟨_, rfl, a, _, dx, _, v, rfl, ha, k_Program T, na_Program_body T, rfl, (by show 0 ≤ sizeLine; decide), fun p hp => ?_⟩
  have s1 : Same H (upd H p (.tup [])) := smNew1 hp _
  refine ⟨l, [], Dp.keep s1 hv, path0 (SqT.of upd_same), hd, by omega, by show 0 + 2 * 4 ≤ 1000; omega, fun r H1 ys e1 hr1 hr2 hys => ?_⟩
  have s2 : Same H H1 := s1.trans e1
  have hl : ys.length = (aB [] 0 l).length := by rw [DpAll.len hys, allD_len]
  have hl2 : ys.length ≤ 400 := by rw [hl, aB_len]; exact hc
  refine seqA_of (.inl (SqL.of hr2)) (Same.refl _) fun J wk => ?_
  intro D nD
  refine ⟨fun i m H => m = ys.length - i ∧ i ≤ ys.length ∧ Same H1 H ∧ ∃ zs, H D = some (SetX P w D zs) ∧ zs.length ≤ 2 * i ∧ ∀ k, k ∈ zs ↔ k ∈ ((aB [] 0 l).take i).flatMap (fun q => q.2.names),
    ⟨ys.length, by simp, Nat.zero_le _, smNew1 nD _, [], upd_same, Nat.le_refl _, fun k => by simp⟩, ?_⟩
  rintro i m H2 ⟨rfl, hi, s3, zs, hzs, hzl, hm⟩
  by_cases hlt : i < ys.length
  · refine .inr ⟨wk.goes i H2 hlt s3, fun H' => Same H1 H' ∧ ∃ zs, H' D = some (SetX P w D zs) ∧ zs.length ≤ 2 * (i + 1) ∧ ∀ k, k ∈ zs ↔ k ∈ ((aB [] 0 l).take (i + 1)).flatMap (fun q => q.2.names), fun H' p' => ⟨ys.length - (i + 1), by omega, rfl, hlt, p'⟩, fun x H3 y => ?_⟩
    obtain ⟨rfl, hx⟩ := wk.yields i H2 x H3 hlt s3 y
    obtain ⟨d, hd1, hd2⟩ := DpAll.getV hys hx
    unfold allD at hd1
    rw [List.getElem?_map] at hd1
    obtain ⟨⟨pth, st⟩, hq, rfl⟩ := Option.map_eq_some_iff.mp hd1
    obtain ⟨t, us, rfl, ht, hz⟩ := Dp.tup_inv (Dp.keep s3 hd2)
    obtain ⟨z1, r1, rfl, hz1, hz⟩ := DpAll.cons_inv hz
    obtain ⟨z2, r2, rfl, hz2, hz⟩ := DpAll.cons_inv hz
    obtain rfl := DpAll.nil_inv hz
    refine ⟨t, _, rfl, ht, rfl, _, _, rfl, _, _, rfl, rfl, rfl, ?_⟩
    refine yesI ?_
    refine ⟨_, rfl, st, hz2, fun r4 H4 s4 nr4 hr4 => ?_⟩
    have n4 : r4 ≠ D := fun z => by
      rw [z, hzs] at nr4
      cases nr4
    have d0 : Same (del H4 D) H4 := fun b u z => by
      by_cases hb : b = D
      · rw [hb, del_same] at z
        cases z
      · rwa [del_ne hb] at z
    have h0 : del H4 D r4 = some (.lst (st.names.map V.str)) := by rw [del_ne n4]; exact hr4
    refine seqA_of (.inl (SqL.of h0)) d0 fun J1 wk1 => ?_
    have hnl := names_len st
    refine scX_in wk1 (fun j => (st.names[j]?).getD "") del_same d0 (s4 _ _ hzs) (by rw [List.length_map]; omega) (fun H5 e => e) ?_ ?_
    · rintro j x H5 H6 N1 hj e ⟨rfl, hx1⟩ hk
      rw [List.getElem?_map] at hx1
      obtain ⟨z, hz1, rfl⟩ := Option.map_eq_some_iff.mp hx1
      refine ⟨rfl, yesI ?_⟩
      have := hk _ (Same.refl _)
      rw [hz1] at this
      exact ⟨_, rfl, this⟩
    · intro H5 zs2 e5 hD2 hl5 hm5
      rw [List.length_map] at hl5
      refine ⟨fun b u z => e5 _ _ ?_, zs2, hD2, by omega, fun k => ?_⟩
      · rw [del_ne (ne_of_none z nD)]
        exact s4 _ _ (s3 _ _ z)
      · rw [hm5, hm, take_more hq, List.flatMap_append, List.mem_append]
        refine or_congr Iff.rfl ?_
        show _ ↔ k ∈ st.names ++ []
        rw [List.append_nil, List.length_map]
        constructor
        · rintro ⟨j, hj, rfl⟩
          rw [List.getElem?_eq_getElem hj]
          exact List.getElem_mem hj
        · intro hk
          obtain ⟨j, hj, e⟩ := List.getElem_of_mem hk
          exact ⟨j, hj, by rw [List.getElem?_eq_getElem hj, e]; rfl⟩
  · have e : i = ys.length := by omega
    subst e
    refine .inl ⟨wk.stops H2 s3, D, zs, rfl, hzs, by omega, fun ks p pm nd srt hp => ?_⟩
    have s4 := smNew1 hp (.lst (ks.map V.str))
    refine ⟨p, _, rfl, .inl ⟨SqL.of upd_same, fun p2 hp2 => ?_⟩⟩
    refine q ks p2 _ (s2.trans (s3.trans (smNew s4 hp2 _))) upd_same (RM.KeysOf.of pm nd srt fun k => ?_)
    rw [hm, hl, List.take_length]
    exact Iff.rfl
end
end RM

set_option Elab.async false
set_option linter.all false
set_option maxRecDepth 100000
set_option maxHeartbeats 2000000
namespace RM
open PySem PySem.Spec PyProof.Rows L2
/-! ### the draws: a list of four at d, apart from all else -/
def Hd4 (H : Hp) (d sc : Addr) : Prop := ∃ (p q r : Int), H d = some (.lst [.ref sc, .int p, .int q, .int r]) ∧ 0 ≤ p
def Scr (K : PySem.W.Frag) (H : Hp) (sc : Addr) : Prop := ∃ xs : List Int, SqL K H sc (xs.map V.int)
def DrawAt (K : PySem.W.Frag) (H : Hp) (d sc : Addr) : Prop := Hd4 H d sc ∧ Scr K (del H d) sc
/-- all but d is kept -/
def But (d : Addr) (H H' : Hp) : Prop := Same (del H d) (del H' d)
theorem But.refl (d : Addr) (H : Hp) : But d H H := Same.refl _
theorem But.trans {d : Addr} {H H1 H2 : Hp} (a : But d H H1) (b : But d H1 H2) : But d H H2 := Same.trans a b
theorem del_sm (H : Hp) (d : Addr) : Same (del H d) H := fun b u z => by
  by_cases hb : b = d
  · rw [hb, del_same] at z
    cases z
  · rwa [del_ne hb] at z
theorem but_upd (d : Addr) (H : Hp) (o : HO) : But d H (upd H d o) := fun b u z => by
  by_cases hb : b = d
  · rw [hb, del_same] at z
    cases z
  · rw [del_ne hb] at z ⊢
    rw [upd_ne hb]
    exact z
theorem but_sm {d : Addr} {H H' : Hp} (e : Same H H') : But d H H' := fun b u z => by
  by_cases hb : b = d
  · rw [hb, del_same] at z
    cases z
  · rw [del_ne hb] at z ⊢
    exact e _ _ z
theorem But.get {d b : Addr} {H H' : Hp} {o : HO} (e : But d H H') (hb : b ≠ d) (h : H b = some o) : H' b = some o := by
  have := e b o (by rw [del_ne hb]; exact h)
  rwa [del_ne hb] at this
theorem Scr.keep {K : PySem.W.Frag} {H H' : Hp} {sc : Addr} (e : Same H H') (h : Scr K H sc) : Scr K H' sc := let ⟨xs, h⟩ := h; ⟨xs, e.seq h⟩
theorem Hd4.keep {H H' : Hp} {d sc : Addr} (e : Same H H') (h : Hd4 H d sc) : Hd4 H' d sc := let ⟨p, q, r, h, z⟩ := h; ⟨p, q, r, e _ _ h, z⟩
theorem DrawAt.keep {K : PySem.W.Frag} {H H' : Hp} {d sc : Addr} (e : Same H H') (h : DrawAt K H d sc) : DrawAt K H' d sc := ⟨h.1.keep e, h.2.keep (but_sm e)⟩
theorem DrawAt.set {K : PySem.W.Frag} {H : Hp} {d sc : Addr} {xs : List Int} (h2 : SqL K (del H d) sc (xs.map V.int)) {p : Int} (h3 : 0 ≤ p) (q r : Int) : DrawAt K (upd H d (.lst [.ref sc, .int p, .int q, .int r])) d sc :=
  ⟨⟨p, q, r, upd_same, h3⟩, xs, (but_upd d H _).seq h2⟩
theorem Hd4.ne {H : Hp} {d sc : Addr} (h : Hd4 H d sc) : H d ≠ none := by
  obtain ⟨p, q, r, h, _⟩ := h
  rw [h]
  exact fun z => nomatch z
/-! ### what is new since H0 -/
def nw (H0 H : Hp) : Hp := fun b => match H0 b with
  | none => H b
  | some _ => none
theorem nw_new {H0 H : Hp} {b : Addr} (h : H0 b = none) : nw H0 H b = H b := by
  unfold nw
  rw [h]
theorem nw_some {H0 H : Hp} {b : Addr} {u : HO} (h : nw H0 H b = some u) : H0 b = none ∧ H b = some u := by
  unfold nw at h
  cases e : H0 b with
  | none => rw [e] at h; exact ⟨rfl, h⟩
  | some v => rw [e] at h; cases h
theorem nw_sm (H0 H : Hp) : Same (nw H0 H) H := fun b u z => (nw_some z).2
/-- all of H0 stands in H -/
def Gro (H0 H : Hp) : Prop := ∀ b, H b = none → H0 b = none
theorem Gro.refl (H : Hp) : Gro H H := fun _ h => h
theorem Gro.trans {H0 H1 H2 : Hp} (a : Gro H0 H1) (b : Gro H1 H2) : Gro H0 H2 := fun c h => a c (b c h)
theorem gro_sm {H0 H : Hp} (e : Same H0 H) : Gro H0 H := fun b h => e.free h
theorem gro_upd {H : Hp} {p : Addr} {o : HO} : Gro H (upd H p o) := fun b h => by
  by_cases hb : b = p
  · rw [hb, upd_same] at h
    cases h
  · rwa [upd_ne hb] at h
theorem gro_but {d : Addr} {H0 H : Hp} (e : But d H0 H) (hd : H d ≠ none) : Gro H0 H := fun b h => by
  by_cases hb : b = d
  · rw [hb] at h
    exact absurd h hd
  · cases z : H0 b with
    | none => rfl
    | some u =>
      rw [e.get hb z] at h
      cases h
theorem nw_but {d : Addr} {H0 H H' : Hp} (e : But d H H') (h0 : H0 d ≠ none) : Same (nw H0 H) (nw H0 H') := fun b u z => by
  obtain ⟨z1, z2⟩ := nw_some z
  rw [nw_new z1]
  exact e.get (fun q => h0 (by rw [← q]; exact z1)) z2
theorem nw_keep {H0 H H' : Hp} (e : Same H H') : Same (nw H0 H) (nw H0 H') := fun b u z => by
  obtain ⟨z1, z2⟩ := nw_some z
  rw [nw_new z1]
  exact e _ _ z2
theorem nw_back {H0 H1 H : Hp} (g : Gro H0 H1) : Same (nw H1 H) (nw H0 H) := fun b u z => by
  obtain ⟨z1, z2⟩ := nw_some z
  rw [nw_new (g _ z1)]
  exact z2
/-- what is new since H1 isn't p, that stood in H1 -/
theorem nw_del {H1 H : Hp} {p : Addr} (h : H1 p ≠ none) : Same (nw H1 H) (del (nw H1 H) p) := fun b u z => by
  rw [del_ne fun q => h (by rw [← q]; exact (nw_some z).1)]
  exact z
theorem del_mono {p : Addr} {H H' : Hp} (e : Same H H') : Same (del H p) (del H' p) := but_sm e
section
variable {P : Program} {w : World} {K : PySem.W.Frag} {mg : Str → Option Value} {base : Heap}
def spBegin (K : PySem.W.Frag) : Sp := fun vs H Q _ => match vs with
  | [x] => ∃ (a : Addr) (xs : List Int), x = .ref a ∧ SqL K H a (xs.map V.int) ∧ ∀ d sc H', Same H H' → H d = none → DrawAt K H' d sc → Q (.ref d) H'
  | _ => False
theorem sc_law_begin : FnScope ["_law_script"] ["_law_script"] (defScope s_law_begin) := ⟨rfl, rfl, rfl, by decide +kernel, rfl, by decide +kernel, by decide +kernel⟩
theorem c_law_begin (T : Top w K mg) : Cal P w K mg base CX0 1 "_law_begin" (spBegin K) := by
  refine cal_0 (f_law_begin T) (g_law_begin T) sc_law_begin (fun _ _ _ _ _ _ us hl => match us, hl with | [_], _ => rfl) (fun vs H Q E h => match vs, h with | [_], _ => rfl) (fun cdv A outer s H vs Q E hr h => ?_)
  match vs, h with
  | [x], h =>
  obtain ⟨a, xs, rfl, ha, q⟩ := h
  refine ⟨_, (pss_one (ps_ret (pe_lst (pa_cons (pct (z_list T) call_list_of boot_list (pa_cons (pv 0) pa_nil)) (pa_cons pe_int (pa_cons pe_int (pa_cons pe_int pa_nil))))))), ?_⟩
  refine ⟨_, rfl, a, _, rfl, .inl ha, fun sc hsc => ?_⟩
  refine ⟨(by show 4 ≤ sizeLine; decide), fun d hd => ?_⟩
  have s1 : Same H (upd H sc (.lst (xs.map V.int))) := smNew1 hsc _
  refine q d sc _ (smNew s1 hd _) (s1.free hd) ⟨⟨0, 0, 7, upd_same, Int.le_refl 0⟩, xs, ?_⟩
  refine SqL.of ?_
  have hne : sc ≠ d := fun e => by
    rw [← e, upd_same] at hd
    cases hd
  rw [del_ne hne, upd_ne hne]
  exact upd_same
/-! ### _law_draw -/
def spDraw (K : PySem.W.Frag) : Sp := fun vs H Q _ => match vs with
  | [x, y] => ∃ d sc m, x = .ref d ∧ y = .int m ∧ DrawAt K H d sc ∧ 0 < m ∧ m < 1000000 ∧ ∀ r H', 0 ≤ r → r < m → But d H H' → DrawAt K H' d sc → Q (.int r) H'
  | _ => False
theorem sc_law_draw : FnScope ["_law_draws", "_law_many", "_law_cell", "_law_found"] ["_law_draws", "_law_many"] (defScope s_law_draw) := ⟨rfl, rfl, rfl, by decide +kernel, rfl, by decide +kernel, by decide +kernel⟩
theorem c_law_draw (T : Top w K mg) : Cal P w K mg base CX0 1 "_law_draw" (spDraw K) := by
  refine cal_0 (f_law_draw T) (g_law_draw T) sc_law_draw (fun _ _ _ _ _ _ us hl => match us, hl with | [_, _], _ => rfl) (fun vs H Q E h => match vs, h with | [_, _], _ => rfl) (fun cdv A outer s H vs Q E hr h => ?_)
  match vs, h with
  | [x, y], h =>
  obtain ⟨d, sc, m, rfl, rfl, ⟨⟨p, q0, r, hd, hp⟩, xs, hs⟩, m0, m1, q⟩ := h
  refine ⟨_, (pss_cons (ps_if (pt_cmpR op_eq (pe_ix ix_list (pv 0) pe_int (fun _ _ => rfl)) pe_int (nomark _))
      (pss_one (ps_if (pt_cmpR op_lt (pe_ix ix_list (pv 0) pe_int (fun _ _ => rfl)) (pcb (z_len T) call_len_seq boot_len (pa_cons (pe_ix ix_list (pv 0) pe_int (fun _ _ => rfl)) pa_nil)) (nomark _))
      (pss_cons (ps_set (i := 2) sc_law_draw.nd rfl (Or.inl rfl) (pe_ix ix_list (pe_ix ix_list (pv 0) pe_int (fun _ _ => rfl)) (pe_ix ix_list (pv 0) pe_int (fun _ _ => rfl)) (fun _ _ => rfl)))
    (pss_cons (ps_asg (pe_op op_add (pe_ix ix_list (pv 0) pe_int (fun _ _ => rfl)) pe_int) (pg_sub (pv 0) pe_int set_list))
    (pss_one (ps_if (pt_cmpR op_ge (pv 2) (pe_op op_pow pe_int pe_int) (nomark _))
      (pss_one (ps_asg (pv 2) (pg_sub (pv 0) pe_int set_list)))
      (pss_one (ps_asg (pe_op op_mod (pct (z_int T) call_int1 boot_int (pa_cons (pe_op op_add (pe_op op_add (pe_op op_mul (pe_ix ix_list (pv 0) pe_int (fun _ _ => rfl)) pe_int) (pe_op op_mul (pv 2) pe_int)) pe_int) pa_nil)) pe_int) (pg_sub (pv 0) pe_int set_list)))))))
      (pss_one (ps_asg (pe_op op_mod (pct (z_int T) call_int1 boot_int (pa_cons (pe_op op_add (pe_op op_mul (pe_ix ix_list (pv 0) pe_int (fun _ _ => rfl)) pe_int) pe_int) pa_nil)) pe_int) (pg_sub (pv 0) pe_int set_list)))))
      pss_nil)
    (pss_cons (ps_if (pt_cmpR op_gt (pe_ix ix_list (pv 0) pe_int (fun _ _ => rfl)) pe_int (nomark _))
      (pss_cons (ps_set (i := 3) sc_law_draw.nd rfl (Or.inl rfl) (pe_op op_mod (pct (z_int T) call_int1 boot_int (pa_cons (pe_ix ix_list (pv 0) pe_int (fun _ _ => rfl)) pa_nil)) (pv 1)))
    (pss_cons (ps_asg (pe_op op_fdiv (pe_ix ix_list (pv 0) pe_int (fun _ _ => rfl)) (pv 1)) (pg_sub (pv 0) pe_int set_list))
    (pss_one (ps_ret (pv 3)))))
      pss_nil)
    (pss_one (ps_ret (pe_op op_mod (pe_op op_mod (pct (z_int T) call_int1 boot_int (pa_cons (pe_op op_mul (pe_ix ix_list (pv 0) pe_int (fun _ _ => rfl)) pe_int) pa_nil)) pe_int) (pv 1)))))), ?_⟩
  have hs0 : SqL K H sc (xs.map V.int) := (del_sm H d).seq hs
  refine ⟨_, rfl, _, _, _, _, rfl, rfl, SqL.of hd, at2, rfl, _, rfl, ?_⟩
  refine ifB (fun hq => ?_) (fun hq => ?_)
  · refine ⟨_, rfl, _, _, _, _, rfl, rfl, SqL.of hd, at1, ?_⟩
    refine ⟨_, rfl, _, _, _, _, rfl, rfl, SqL.of hd, at0, _, _, rfl, .inl hs0, ?_⟩
    refine ⟨_, _, rfl, rfl, _, rfl, ?_⟩
    refine ifB (fun hl => ?_) (fun hl => ?_)
    · have hl1 : p < ((xs.map V.int).length : Nat) := of_decide_eq_true hl
      rw [List.length_map] at hl1
      obtain ⟨k, rfl⟩ : ∃ k : Nat, p = k := ⟨p.toNat, by omega⟩
      have hk : k < xs.length := by omega
      -- the cell
      refine ⟨_, rfl, _, _, _, _, rfl, rfl, SqL.of hd, at0, ?_⟩
      refine ⟨_, rfl, _, _, _, _, rfl, rfl, SqL.of hd, at1, ?_⟩
      refine ⟨_, _, _, V.int xs[k], rfl, rfl, hs0, atI_nat (by rw [List.getElem?_map, List.getElem?_eq_getElem hk]; rfl), ?_⟩
      -- the place
      refine ⟨_, rfl, _, _, _, _, rfl, rfl, SqL.of hd, at1, ?_⟩
      refine ⟨_, _, rfl, rfl, ?_⟩
      refine ⟨_, rfl, d, _, _, 1, rfl, rfl, hd, rfl, ?_⟩
      obtain ⟨H1, e1, hd1, hs1, bt1⟩ : ∃ H1, H1 = upd H d (.lst [.ref sc, .int ((k : Int) + 1), .int q0, .int r]) ∧ H1 d = some (.lst [.ref sc, .int ((k : Int) + 1), .int q0, .int r]) ∧ SqL K (del H1 d) sc (xs.map V.int) ∧ But d H H1 := ⟨_, rfl, upd_same, (but_upd d H _).seq hs, but_upd d H _⟩
      have e1' : upd H d (.lst ([V.ref sc, .int k, .int q0, .int r].set 1 (.int ((k : Int) + 1)))) = H1 := e1.symm
      rw [e1']
      have hp2 : (0 : Int) ≤ (k : Int) + 1 := by omega
      refine ⟨_, rfl, _, _, rfl, rfl, ⟨by decide, by decide, by decide⟩, ?_⟩
      refine ⟨_, _, rfl, rfl, _, rfl, ?_⟩
      refine ifB (fun hc => ?_) (fun hc => ?_)
      · refine ⟨_, rfl, _, rfl, d, _, _, 2, rfl, rfl, hd1, rfl, ?_⟩
        obtain ⟨H2, e2, hd2, hs2, bt⟩ : ∃ H2, H2 = upd H1 d (.lst [.ref sc, .int ((k : Int) + 1), .int xs[k], .int r]) ∧ H2 d = some (.lst [.ref sc, .int ((k : Int) + 1), .int xs[k], .int r]) ∧ SqL K (del H2 d) sc (xs.map V.int) ∧ But d H H2 := ⟨_, rfl, upd_same, (but_upd d H1 _).seq hs1, bt1.trans (but_upd d H1 _)⟩
        have e2' : upd H1 d (.lst ([V.ref sc, .int ((k : Int) + 1), .int q0, .int r].set 2 (.int xs[k]))) = H2 := e2.symm
        rw [e2']
        refine ⟨_, rfl, _, _, _, _, rfl, rfl, SqL.of hd2, at2, _, _, rfl, rfl, _, rfl, ?_⟩
        refine ifB (fun hq2 => ?_) (fun hq2 => ?_)
        · refine ⟨_, rfl, _, _, _, _, rfl, rfl, SqL.of hd2, at2, .inl ⟨_, rfl, ?_⟩⟩
          refine ⟨_, rfl, _, _, rfl, rfl, m0, ?_⟩
          refine ⟨_, rfl, _, _, _, _, rfl, rfl, SqL.of hd2, at2, ?_⟩
          refine ⟨_, rfl, _, _, rfl, rfl, ⟨m0, by omega⟩, ?_⟩
          refine ⟨_, rfl, d, _, _, 2, rfl, rfl, hd2, rfl, ?_⟩
          refine ⟨_, rfl, ?_⟩
          exact q _ _ (Int.emod_nonneg _ (by omega)) (Int.emod_lt_of_pos _ m0) (bt.trans (but_upd d _ _)) (DrawAt.set hs2 hp2 _ _)
        · refine ⟨_, rfl, _, _, _, _, rfl, rfl, SqL.of hd2, at3, ?_⟩
          refine ⟨_, _, rfl, rfl, .inr (by decide), .inl ⟨_, rfl, ?_⟩⟩
          refine ⟨_, _, rfl, rfl, (by show (0 : Int) < _; decide), ?_⟩
          refine ⟨_, rfl, _, _, rfl, rfl, m0, ?_⟩
          exact q _ _ (Int.emod_nonneg _ (by omega)) (Int.emod_lt_of_pos _ m0) bt ⟨⟨_, _, _, hd2, hp2⟩, _, hs2⟩
      · refine ⟨_, rfl, _, _, _, _, rfl, rfl, SqL.of hd1, at3, ?_⟩
        refine ⟨_, _, rfl, rfl, .inr (by decide), ?_⟩
        refine ⟨_, rfl, _, _, rfl, rfl, .inr (by decide), ?_⟩
        refine ⟨_, _, rfl, rfl, _, _, rfl, rfl, .inl ⟨_, rfl, ?_⟩⟩
        refine ⟨_, _, rfl, rfl, (by show (0 : Int) < _; decide), ?_⟩
        refine ⟨_, rfl, d, _, _, 3, rfl, rfl, hd1, rfl, ?_⟩
        obtain ⟨H2, e2, hd2, hs2, bt⟩ : ∃ H2, H2 = upd H1 d (.lst [.ref sc, .int ((k : Int) + 1), .int q0, .int ((r * 48271 + xs[k] * 69621 + 11) % 2147483647)]) ∧ H2 d = some (.lst [.ref sc, .int ((k : Int) + 1), .int q0, .int ((r * 48271 + xs[k] * 69621 + 11) % 2147483647)]) ∧ SqL K (del H2 d) sc (xs.map V.int) ∧ But d H H2 := ⟨_, rfl, upd_same, (but_upd d H1 _).seq hs1, bt1.trans (but_upd d H1 _)⟩
        have e2' : upd H1 d (.lst ([V.ref sc, .int ((k : Int) + 1), .int q0, .int r].set 3 (.int ((r * 48271 + xs[k] * 69621 + 11) % 2147483647)))) = H2 := e2.symm
        rw [e2']
        refine ⟨_, rfl, _, _, _, _, rfl, rfl, SqL.of hd2, at2, _, _, rfl, rfl, _, rfl, ?_⟩
        refine ifB (fun hq2 => ?_) (fun hq2 => ?_)
        · refine ⟨_, rfl, _, _, _, _, rfl, rfl, SqL.of hd2, at2, .inl ⟨_, rfl, ?_⟩⟩
          refine ⟨_, rfl, _, _, rfl, rfl, m0, ?_⟩
          refine ⟨_, rfl, _, _, _, _, rfl, rfl, SqL.of hd2, at2, ?_⟩
          refine ⟨_, rfl, _, _, rfl, rfl, ⟨m0, by omega⟩, ?_⟩
          refine ⟨_, rfl, d, _, _, 2, rfl, rfl, hd2, rfl, ?_⟩
          refine ⟨_, rfl, ?_⟩
          exact q _ _ (Int.emod_nonneg _ (by omega)) (Int.emod_lt_of_pos _ m0) (bt.trans (but_upd d _ _)) (DrawAt.set hs2 hp2 _ _)
        · refine ⟨_, rfl, _, _, _, _, rfl, rfl, SqL.of hd2, at3, ?_⟩
          refine ⟨_, _, rfl, rfl, .inr (by decide), .inl ⟨_, rfl, ?_⟩⟩
          refine ⟨_, _, rfl, rfl, (by show (0 : Int) < _; decide), ?_⟩
          refine ⟨_, rfl, _, _, rfl, rfl, m0, ?_⟩
          exact q _ _ (Int.emod_nonneg _ (by omega)) (Int.emod_lt_of_pos _ m0) bt ⟨⟨_, _, _, hd2, hp2⟩, _, hs2⟩
    · refine ⟨_, rfl, _, _, _, _, rfl, rfl, SqL.of hd, at3, ?_⟩
      refine ⟨_, _, rfl, rfl, .inr (by decide), ?_⟩
      refine ⟨_, _, rfl, rfl, .inl ⟨_, rfl, ?_⟩⟩
      refine ⟨_, _, rfl, rfl, (by show (0 : Int) < _; decide), ?_⟩
      refine ⟨_, rfl, d, _, _, 3, rfl, rfl, hd, rfl, ?_⟩
      have hp2 := hp
      obtain ⟨H2, e2, hd2, hs2, bt⟩ : ∃ H2, H2 = upd H d (.lst [.ref sc, .int p, .int q0, .int ((r * 48271 + 7) % 2147483647)]) ∧ H2 d = some (.lst [.ref sc, .int p, .int q0, .int ((r * 48271 + 7) % 2147483647)]) ∧ SqL K (del H2 d) sc (xs.map V.int) ∧ But d H H2 := ⟨_, rfl, upd_same, (but_upd d H _).seq hs, but_upd d H _⟩
      have e2' : upd H d (.lst ([V.ref sc, .int p, .int q0, .int r].set 3 (.int ((r * 48271 + 7) % 2147483647)))) = H2 := e2.symm
      rw [e2']
      refine ⟨_, rfl, _, _, _, _, rfl, rfl, SqL.of hd2, at2, _, _, rfl, rfl, _, rfl, ?_⟩
      refine ifB (fun hq2 => ?_) (fun hq2 => ?_)
      · refine ⟨_, rfl, _, _, _, _, rfl, rfl, SqL.of hd2, at2, .inl ⟨_, rfl, ?_⟩⟩
        refine ⟨_, rfl, _, _, rfl, rfl, m0, ?_⟩
        refine ⟨_, rfl, _, _, _, _, rfl, rfl, SqL.of hd2, at2, ?_⟩
        refine ⟨_, rfl, _, _, rfl, rfl, ⟨m0, by omega⟩, ?_⟩
        refine ⟨_, rfl, d, _, _, 2, rfl, rfl, hd2, rfl, ?_⟩
        refine ⟨_, rfl, ?_⟩
        exact q _ _ (Int.emod_nonneg _ (by omega)) (Int.emod_lt_of_pos _ m0) (bt.trans (but_upd d _ _)) (DrawAt.set hs2 hp2 _ _)
      · refine ⟨_, rfl, _, _, _, _, rfl, rfl, SqL.of hd2, at3, ?_⟩
        refine ⟨_, _, rfl, rfl, .inr (by decide), .inl ⟨_, rfl, ?_⟩⟩
        refine ⟨_, _, rfl, rfl, (by show (0 : Int) < _; decide), ?_⟩
        refine ⟨_, rfl, _, _, rfl, rfl, m0, ?_⟩
        exact q _ _ (Int.emod_nonneg _ (by omega)) (Int.emod_lt_of_pos _ m0) bt ⟨⟨_, _, _, hd2, hp2⟩, _, hs2⟩
  · have hd2 := hd
    have hs2 := hs
    have hp2 := hp
    have bt := But.refl d H
    refine ⟨_, rfl, _, _, _, _, rfl, rfl, SqL.of hd2, at2, _, _, rfl, rfl, _, rfl, ?_⟩
    refine ifB (fun hq2 => ?_) (fun hq2 => ?_)
    · refine ⟨_, rfl, _, _, _, _, rfl, rfl, SqL.of hd2, at2, .inl ⟨_, rfl, ?_⟩⟩
      refine ⟨_, rfl, _, _, rfl, rfl, m0, ?_⟩
      refine ⟨_, rfl, _, _, _, _, rfl, rfl, SqL.of hd2, at2, ?_⟩
      refine ⟨_, rfl, _, _, rfl, rfl, ⟨m0, by omega⟩, ?_⟩
      refine ⟨_, rfl, d, _, _, 2, rfl, rfl, hd2, rfl, ?_⟩
      refine ⟨_, rfl, ?_⟩
      exact q _ _ (Int.emod_nonneg _ (by omega)) (Int.emod_lt_of_pos _ m0) (bt.trans (but_upd d _ _)) (DrawAt.set hs2 hp2 _ _)
    · refine ⟨_, rfl, _, _, _, _, rfl, rfl, SqL.of hd2, at3, ?_⟩
      refine ⟨_, _, rfl, rfl, .inr (by decide), .inl ⟨_, rfl, ?_⟩⟩
      refine ⟨_, _, rfl, rfl, (by show (0 : Int) < _; decide), ?_⟩
      refine ⟨_, rfl, _, _, rfl, rfl, m0, ?_⟩
      exact q _ _ (Int.emod_nonneg _ (by omega)) (Int.emod_lt_of_pos _ m0) bt ⟨⟨_, _, _, hd2, hp2⟩, _, hs2⟩
end
end RM

set_option Elab.async false
set_option linter.all false
set_option maxRecDepth 100000
set_option maxHeartbeats 2000000
namespace RM
open PySem PySem.Spec PyProof.Rows L2
theorem nw_obj {H0 H1 : Hp} {p : Addr} {o : HO} (hp : H1 p = none) (g : Gro H0 H1) : nw H0 (upd H1 p o) p = some o := by
  rw [nw_new (g p hp)]
  exact upd_same
theorem draw_of {r m : Int} (h0 : 0 ≤ r) (h1 : r < m) : ∃ k : Nat, r = k ∧ (k : Int) < m := ⟨r.toNat, by omega, by omega⟩
section
variable {P : Program} {w : World} {K : PySem.W.Frag} {mg : Str → Option Value} {base : Heap}
/-- the variables of a law's programs -/
def vMenu : List Str := ["x", "y", "a", "b"]
def isV (v : Str) : Bool := decide (v ∈ vMenu)
mutual
def vS : Stm → Bool
  | .read v _ => isV v
  | .set v _ => isV v
  | .copy v u => isV v && isV u
  | .print v => isV v
  | .ite v _ a b => isV v && (vB a && vB b)
  | .same v u a b => isV v && isV u && (vB a && vB b)
  | .rep _ a => vB a
  | _ => true
def vB : List Stm → Bool
  | [] => true
  | s :: r => vS s && vB r
end
theorem vB_app : ∀ (l m : List Stm), vB (l ++ m) = (vB l && vB m)
  | [], m => by simp [vB]
  | s :: r, m => by rw [List.cons_append, vB, vB, vB_app r m, Bool.and_assoc]
theorem vB_take {l : List Stm} (h : vB l = true) (j : Nat) : vB (l.take j) = true := by
  have := vB_app (l.take j) (l.drop j)
  rw [List.take_append_drop, h] at this
  cases e : vB (l.take j) with
  | true => rfl
  | false => rw [e] at this; cases this
def spVar (K : PySem.W.Frag) : Sp := fun vs H Q _ => match vs with
  | [x] => ∃ d sc, x = .ref d ∧ DrawAt K H d sc ∧ ∀ z H', z ∈ vMenu → But d H H' → DrawAt K H' d sc → Q (.str z) H'
  | _ => False
theorem sc_law_variable : FnScope ["_law_draws"] ["_law_draws"] (defScope s_law_variable) := ⟨rfl, rfl, rfl, by decide +kernel, rfl, by decide +kernel, by decide +kernel⟩
theorem vars_word : ∀ z ∈ vMenu, isWord z = true := by decide +kernel
theorem isV_of {z : Str} (h : z ∈ vMenu) : isV z = true := decide_eq_true h
theorem c_law_variable (T : Top w K mg) : Cal P w K mg base CX0 2 "_law_variable" (spVar K) := by
  refine cal_0 (f_law_variable T) (g_law_variable T) sc_law_variable (fun _ _ _ _ _ _ us hl => match us, hl with | [_], _ => rfl) (fun vs H Q E h => match vs, h with | [_], _ => rfl) (fun cdv A outer s H vs Q E hr h => ?_)
  match vs, h with
  | [x], h =>
  obtain ⟨d, sc, rfl, hd, q⟩ := h
  refine ⟨_, (pss_one (ps_ret (pe_ix ix_list (pe_lst (pa_cons pe_str (pa_cons pe_str (pa_cons pe_str (pa_cons pe_str pa_nil))))) (pc (c_law_draw T) hr (pa_cons (pv 0) (pa_cons pe_int pa_nil))) (fun _ _ => rfl)))), ?_⟩
  refine ⟨(by show 4 ≤ sizeLine; decide), fun p hp => ?_⟩
  have s1 : Same H (upd H p (.lst [.str "x", .str "y", .str "a", .str "b"])) := smNew1 hp _
  refine ⟨_, rfl, d, sc, 4, rfl, rfl, hd.keep s1, by decide, by decide, fun r H' r0 r1 bt hd' => ?_⟩
  have hne : p ≠ d := fun e => hd.1.ne (by rw [← e]; exact hp)
  obtain ⟨k, rfl, hk⟩ := draw_of r0 r1
  have hk4 : k < 4 := by omega
  have ha : atI ([V.str "x", V.str "y", V.str "a", V.str "b"]) (k : Int) = some (V.str ((["x", "y", "a", "b"] : List Str)[k])) := atI_nat (by
    show ((["x", "y", "a", "b"] : List Str).map V.str)[k]? = _
    rw [List.getElem?_map, List.getElem?_eq_getElem hk4]
    rfl)
  refine ⟨p, _, _, _, rfl, rfl, SqL.of (bt.get hne upd_same), ha, ?_⟩
  exact q _ _ (List.getElem_mem hk4) ((but_sm s1).trans bt) hd'
/-! ### _law_plain -/
/-- a statement without bodies, its keys among ks -/
def flatK (ks : List Str) : Stm → Bool
  | .read _ k => decide (k ∈ ks) | .ite .. => false | .same .. => false | .rep .. => false | _ => true
def Ctx (K : PySem.W.Frag) (H : Hp) (d sc n : Addr) (ks : List Str) : Prop := DrawAt K H d sc ∧ SqL K (del H d) n (ks.map V.str) ∧ 0 < ks.length ∧ ks.length < 1000 ∧ ∀ k ∈ ks, isWord k = true
theorem Ctx.keep {H H' : Hp} {d sc n : Addr} {ks : List Str} (e : Same H H') (h : Ctx K H d sc n ks) : Ctx K H' d sc n ks := ⟨h.1.keep e, (but_sm e).seq h.2.1, h.2.2⟩
theorem Ctx.but {H H' : Hp} {d sc n : Addr} {ks : List Str} (e : But d H H') (h : Ctx K H d sc n ks) (hd : DrawAt K H' d sc) : Ctx K H' d sc n ks := ⟨hd, Same.seq e h.2.1, h.2.2⟩
def spPlain (K : PySem.W.Frag) : Sp := fun vs H Q _ => match vs with
  | [x, y] => ∃ d sc n ks, x = .ref d ∧ y = .ref n ∧ Ctx K H d sc n ks ∧
    ∀ s v H', flatK ks s = true → wS s = true → vS s = true → But d H H' → DrawAt K H' d sc → Dp K (nw H H') v (encS true s) → Q v H'
  | _ => False
theorem sc_law_plain : FnScope ["_law_draws", "_law_names", "_law_at"] ["_law_draws", "_law_names"] (defScope s_law_plain) := ⟨rfl, rfl, rfl, by decide +kernel, rfl, by decide +kernel, by decide +kernel⟩
theorem c_law_plain (T : Top w K mg) : Cal P w K mg base CX0 3 "_law_plain" (spPlain K) := by
  refine cal_0 (f_law_plain T) (g_law_plain T) sc_law_plain (fun _ _ _ _ _ _ us hl => match us, hl with | [_, _], _ => rfl) (fun vs H Q E h => match vs, h with | [_, _], _ => rfl) (fun cdv A outer s H vs Q E hr h => ?_)
  match vs, h with
  | [x, y], h =>
  obtain ⟨d, sc, n, ks, rfl, rfl, c0, q⟩ := h
  refine ⟨_, (pss_cons (ps_set (i := 2) sc_law_plain.nd rfl (Or.inl rfl) (pc (c_law_draw T) hr (pa_cons (pv 0) (pa_cons pe_int pa_nil))))
    (pss_cons (ps_if (pt_cmpR op_le (pv 2) pe_int (nomark _))
      (pss_one (ps_ret (pe_tup (pa_cons pe_str (pa_cons (pc (c_law_variable T) hr (pa_cons (pv 0) pa_nil)) (pa_cons (pe_ix ix_list (pv 1) (pc (c_law_draw T) hr (pa_cons (pv 0) (pa_cons (pcb (z_len T) call_len_seq boot_len (pa_cons (pv 1) pa_nil)) pa_nil))) (fun _ _ => rfl)) pa_nil))))))
      pss_nil)
    (pss_cons (ps_if (pt_cmpR op_le (pv 2) pe_int (nomark _))
      (pss_one (ps_ret (pe_tup (pa_cons pe_str pa_nil))))
      pss_nil)
    (pss_cons (ps_if (pt_cmpR op_le (pv 2) pe_int (nomark _))
      (pss_one (ps_ret (pe_tup (pa_cons pe_str (pa_cons (pc (c_law_variable T) hr (pa_cons (pv 0) pa_nil)) pa_nil)))))
      pss_nil)
    (pss_cons (ps_if (pt_cmpR op_eq (pv 2) pe_int (nomark _))
      (pss_one (ps_ret (pe_tup (pa_cons pe_str (pa_cons (pe_op op_sub (pc (c_law_draw T) hr (pa_cons (pv 0) (pa_cons pe_int pa_nil))) pe_int) pa_nil)))))
      pss_nil)
    (pss_cons (ps_if (pt_cmpR op_eq (pv 2) pe_int (nomark _))
      (pss_one (ps_ret (pe_tup (pa_cons pe_str (pa_cons (pc (c_law_variable T) hr (pa_cons (pv 0) pa_nil)) (pa_cons (pc (c_law_draw T) hr (pa_cons (pv 0) (pa_cons pe_int pa_nil))) pa_nil))))))
      pss_nil)
    (pss_cons (ps_if (pt_cmpR op_eq (pc (c_law_draw T) hr (pa_cons (pv 0) (pa_cons pe_int pa_nil))) pe_int (nomark _))
      (pss_one (ps_ret (pe_tup (pa_cons pe_str pa_nil))))
      pss_nil)
    (pss_one (ps_ret (pe_tup (pa_cons pe_str (pa_cons (pc (c_law_variable T) hr (pa_cons (pv 0) pa_nil)) (pa_cons (pc (c_law_variable T) hr (pa_cons (pv 0) pa_nil)) pa_nil))))))))))))), ?_⟩
  refine ⟨_, rfl, d, sc, 11, rfl, rfl, c0.1, by decide, by decide, fun at_ H1 a0 a1 b1 d1 => ?_⟩
  have c1 := c0.but b1 d1
  have fin : ∀ (H2 : Hp) (s : Stm) (p : Addr) (xs : List V) (ds : List PyData), But d H H2 → DrawAt K H2 d sc → H2 p = none → encS true s = .tuple ds → flatK ks s = true → wS s = true → vS s = true → (∀ H, DpAll K H xs ds) → Q (.ref p) (upd H2 p (.tup xs)) := fun H2 s p xs ds b2 d2 hp e f w vv da => by
    refine q s _ _ f w vv (b2.trans (but_sm (smNew1 hp _))) (d2.keep (smNew1 hp _)) ?_
    rw [e]
    exact .tup (SqT.of (nw_obj hp (gro_but b2 d2.1.ne))) (da _)
  refine ⟨_, rfl, _, _, rfl, rfl, _, rfl, ?_⟩
  refine ifB (fun _ => ?_) (fun _ => ?_)
  · -- read
    refine ⟨_, rfl, d, sc, rfl, d1, fun v H2 wv b2 d2 => ?_⟩
    have c2 := c1.but b2 d2
    have hn2 := (del_sm H2 d).seq c2.2.1
    refine ⟨_, rfl, _, rfl, _, rfl, n, _, rfl, .inl hn2, ?_⟩
    refine ⟨d, sc, _, rfl, rfl, d2, by rw [List.length_map]; have := c0.2.2.1; omega, by rw [List.length_map]; have := c0.2.2.2.1; omega, fun r H3 r0 r1 b3 d3 => ?_⟩
    have c3 := c2.but b3 d3
    obtain ⟨k, rfl, hk⟩ := draw_of r0 r1
    rw [List.length_map] at hk
    have hk' : k < ks.length := by omega
    refine ⟨n, _, _, .str ks[k], rfl, rfl, (del_sm H3 d).seq c3.2.1, atI_nat (by rw [List.getElem?_map, List.getElem?_eq_getElem hk']; rfl), ?_⟩
    refine ⟨(by show 3 ≤ sizeLine; decide), fun p hp => ?_⟩
    exact fin H3 (.read v ks[k]) p _ _ (b1.trans (b2.trans b3)) d3 hp rfl (decide_eq_true (List.getElem_mem hk')) (by
      show (isWord v && isWord ks[k]) = true
      rw [vars_word _ wv, c0.2.2.2.2 _ (List.getElem_mem hk')]
      rfl) (isV_of wv) fun _ => .cons (.str _) (.cons (.str _) (.cons (.str _) .nil))
  refine ⟨_, rfl, _, _, rfl, rfl, _, rfl, ?_⟩
  refine ifB (fun _ => ?_) (fun _ => ?_)
  · refine ⟨(by show 1 ≤ sizeLine; decide), fun p hp => ?_⟩
    exact fin H1 .wait p _ _ b1 d1 hp rfl rfl rfl rfl fun _ => .cons (.str _) .nil
  refine ⟨_, rfl, _, _, rfl, rfl, _, rfl, ?_⟩
  refine ifB (fun _ => ?_) (fun _ => ?_)
  · refine ⟨_, rfl, d, sc, rfl, d1, fun v H2 wv b2 d2 => ?_⟩
    refine ⟨(by show 2 ≤ sizeLine; decide), fun p hp => ?_⟩
    exact fin H2 (.print v) p _ _ (b1.trans b2) d2 hp rfl rfl (vars_word _ wv) (isV_of wv) fun _ => .cons (.str _) (.cons (.str _) .nil)
  refine ⟨_, rfl, rfl, _, rfl, ?_⟩
  refine ifB (fun _ => ?_) (fun _ => ?_)
  · refine ⟨_, rfl, d, sc, _, rfl, rfl, d1, by decide, by decide, fun r H2 r0 r1 b2 d2 => ?_⟩
    refine ⟨_, _, rfl, rfl, ?_⟩
    refine ⟨(by show 2 ≤ sizeLine; decide), fun p hp => ?_⟩
    exact fin H2 (.say (r - 99)) p _ _ (b1.trans b2) d2 hp rfl rfl (by
      show (decide _ && decide _) = true
      rw [decide_eq_true (by omega), decide_eq_true (by omega)]
      rfl) rfl fun _ => .cons (.str _) (.cons (.int _) .nil)
  refine ⟨_, rfl, rfl, _, rfl, ?_⟩
  refine ifB (fun _ => ?_) (fun _ => ?_)
  · refine ⟨_, rfl, d, sc, rfl, d1, fun v H2 wv b2 d2 => ?_⟩
    refine ⟨_, rfl, d, sc, _, rfl, rfl, d2, by decide, by decide, fun r H3 r0 r1 b3 d3 => ?_⟩
    refine ⟨(by show 3 ≤ sizeLine; decide), fun p hp => ?_⟩
    exact fin H3 (.set v r) p _ _ (b1.trans (b2.trans b3)) d3 hp rfl rfl (by
      show (isWord v && (decide _ && decide _)) = true
      rw [vars_word _ wv, decide_eq_true (by omega), decide_eq_true (by omega)]
      rfl) (isV_of wv) fun _ => .cons (.str _) (.cons (.str _) (.cons (.int _) .nil))
  refine ⟨_, rfl, d, sc, _, rfl, rfl, d1, by decide, by decide, fun r H2 r0 r1 b2 d2 => ?_⟩
  refine ⟨rfl, _, rfl, ?_⟩
  refine ifB (fun _ => ?_) (fun _ => ?_)
  · refine ⟨(by show 1 ≤ sizeLine; decide), fun p hp => ?_⟩
    exact fin H2 .stop p _ _ (b1.trans b2) d2 hp rfl rfl rfl rfl fun _ => .cons (.str _) .nil
  refine ⟨_, rfl, d, sc, rfl, d2, fun v H3 wv b3 d3 => ?_⟩
  refine ⟨_, rfl, d, sc, rfl, d3, fun u H4 wu b4 d4 => ?_⟩
  refine ⟨(by show 3 ≤ sizeLine; decide), fun p hp => ?_⟩
  exact fin H4 (.copy v u) p _ _ (b1.trans (b2.trans (b3.trans b4))) d4 hp rfl rfl (by
    show (isWord v && isWord u) = true
    rw [vars_word _ wv, vars_word _ wu]
    rfl) (by
    show (isV v && isV u) = true
    rw [isV_of wv, isV_of wu]
    rfl) fun _ => .cons (.str _) (.cons (.str _) (.cons (.str _) .nil))
end
end RM

set_option Elab.async false
set_option linter.all false
set_option maxRecDepth 100000
set_option maxHeartbeats 4000000
namespace RM
open PySem PySem.Spec PyProof.Rows L2
/-! ### _law_body -/
def bB : Nat → Nat → Nat
  | 0, m => m
  | n + 1, m => m * (1 + max (2 * bB n 2) (bB n 3))
theorem flat_kS {ks : List Str} {s : Stm} (h : flatK ks s = true) : kS ks s = true := by cases s <;> first | exact h | cases h
theorem flat_d {ks : List Str} {s : Stm} (h : flatK ks s = true) : dS s = 0 ∧ cS s = 1 := by cases s <;> first | exact ⟨rfl, rfl⟩ | cases h
theorem wB_app : ∀ (l m : List Stm), wB (l ++ m) = (wB l && wB m)
  | [], m => by simp [wB]
  | s :: r, m => by rw [List.cons_append, wB, wB, wB_app r m, Bool.and_assoc]
theorem kB_app (ks : List Str) : ∀ (l m : List Stm), kB ks (l ++ m) = (kB ks l && kB ks m)
  | [], m => by simp [kB]
  | s :: r, m => by rw [List.cons_append, kB, kB, kB_app ks r m, Bool.and_assoc]
theorem cB_app : ∀ (l m : List Stm), cB (l ++ m) = cB l + cB m
  | [], m => by simp [cB]
  | s :: r, m => by rw [List.cons_append, cB, cB, cB_app r m, Nat.add_assoc]
theorem encB_app (fl : Bool) (l m : List Stm) : encB fl (l ++ m) = encB fl l ++ encB fl m := by rw [encB_map, encB_map, encB_map, List.map_append]
/-- what the making of a body keeps: the body's list at p, not there in H0 -/
def BI (K : PySem.W.Frag) (ks : List Str) (H0 : Hp) (d sc p : Addr) (n k b : Nat) (H : Hp) : Prop := ∃ l acc, Same (del H0 d) (del (del H d) p) ∧ Hd4 H d sc ∧ H p = some (.lst acc) ∧ DpAll K (del (nw H0 H) p) acc (encB true l) ∧
  wB l = true ∧ kB ks l = true ∧ dB l ≤ n + 1 ∧ l.length = k ∧ cB l ≤ k * b ∧ vB l = true
theorem bi_ctx {K : PySem.W.Frag} {H0 H : Hp} {d sc n p : Addr} {ks : List Str} (c : Ctx K H0 d sc n ks) (s : Same (del H0 d) (del (del H d) p)) (h : Hd4 H d sc) : Ctx K H d sc n ks :=
  have e : Same (del H0 d) (del H d) := s.trans (del_sm _ _)
  ⟨⟨h, c.1.2.keep e⟩, e.seq c.2.1, c.2.2⟩
theorem bi_gro {H0 H : Hp} {d p : Addr} (s : Same (del H0 d) (del (del H d) p)) (hd : H d ≠ none) : Gro H0 H := fun b h => by
  by_cases hb : b = d
  · rw [hb] at h
    exact absurd h hd
  · cases z : H0 b with
    | none => rfl
    | some u =>
      have := s b u (by rw [del_ne hb]; exact z)
      have := (del_sm _ _) _ _ ((del_sm _ _) _ _ this)
      rw [this] at h
      cases h
theorem bi_step {K : PySem.W.Frag} {ks : List Str} {H0 H H2 : Hp} {d sc p : Addr} {n k b : Nat} {v : V} {s : Stm} (h0 : H0 d ≠ none) (hp0 : H0 p = none) (hne : p ≠ d) (l : List Stm) (acc : List V)
    (i1 : Same (del H0 d) (del (del H d) p)) (i2 : Hd4 H d sc) (i3 : H p = some (.lst acc)) (i4 : DpAll K (del (nw H0 H) p) acc (encB true l)) (i5 : wB l = true) (i6 : kB ks l = true) (i7 : dB l ≤ n + 1) (i8 : l.length = k) (i9 : cB l ≤ k * b) (i10 : vB l = true)
    (bt : But d H H2) (hd2 : Hd4 H2 d sc) (hv : Dp K (nw H H2) v (encS true s)) (ws : wS s = true) (kk : kS ks s = true) (ds : dS s ≤ n) (cs : cS s ≤ b) (vs : vS s = true) : BI K ks H0 d sc p n (k + 1) b (upd H2 p (.lst (acc ++ [v]))) := by
  have g := bi_gro i1 i2.ne
  refine ⟨l ++ [s], acc ++ [v], fun c u z => ?_, ?_, upd_same, ?_, ?_, ?_, ?_, ?_, ?_, ?_⟩
  · have z2 := i1 c u z
    by_cases hc : c = d
    · rw [hc, del_same] at z
      cases z
    · by_cases hcp : c = p
      · rw [hcp, del_same] at z2
        cases z2
      · rw [del_ne hcp, del_ne hc] at z2 ⊢
        rw [upd_ne hcp]
        exact bt.get hc z2
  · obtain ⟨p', q', r', h, z⟩ := hd2
    exact ⟨p', q', r', by rw [upd_ne hne.symm]; exact h, z⟩
  · rw [encB_app]
    have e1 : Same (del (nw H0 H) p) (del (nw H0 (upd H2 p (.lst (acc ++ [v])))) p) := fun c u z => by
      by_cases hcp : c = p
      · rw [hcp, del_same] at z
        cases z
      · rw [del_ne hcp] at z ⊢
        obtain ⟨z1, z2⟩ := nw_some z
        rw [nw_new z1, upd_ne hcp]
        exact bt.get (fun q => h0 (by rw [← q]; exact z1)) z2
    have e2 : Same (nw H H2) (del (nw H0 (upd H2 p (.lst (acc ++ [v])))) p) := fun c u z => by
      obtain ⟨z1, z2⟩ := nw_some z
      have hcp : c ≠ p := fun q => by
        rw [q, i3] at z1
        cases z1
      rw [del_ne hcp, nw_new (g _ z1), upd_ne hcp]
      exact z2
    exact DpAll.snoc (DpAll.keep e1 i4) (Dp.keep e2 hv)
  · rw [wB_app, i5, wB, ws]
    rfl
  · rw [kB_app, i6, kB, kk]
    rfl
  · rw [dB_snoc]
    omega
  · rw [List.length_append, i8]
    rfl
  · rw [cB_app, cB, cB, Nat.succ_mul]
    omega
  · rw [vB_app, i10, vB, vs]
    rfl
section
variable {P : Program} {w : World} {K : PySem.W.Frag} {mg : Str → Option Value} {base : Heap}
def spBody (K : PySem.W.Frag) (n : Nat) : Sp := fun vs H Q _ => match vs with
  | [x, y, z, u] => ∃ d sc nm ks, ∃ deep m : Nat, x = .ref d ∧ y = .ref nm ∧ z = .int deep ∧ u = .int m ∧ deep < n ∧ m ≤ 1000 ∧ bB deep m ≤ 1000 ∧ Ctx K H d sc nm ks ∧
    ∀ r l ys H', wB l = true → kB ks l = true → vB l = true → dB l ≤ deep + 1 → cB l ≤ bB deep m → But d H H' → DrawAt K H' d sc → H r = none → H' r = some (.lst ys) → DpAll K (del (nw H H') r) ys (encB true l) → Q (.ref r) H'
  | _ => False
theorem sc_law_body : FnScope ["_law_draws", "_law_names", "_law_deep", "_law_most", "_law_body_here", "_law_k", "_law_at", "_law_one", "_law_two"] ["_law_draws", "_law_names", "_law_deep", "_law_most"] (defScope s_law_body) := ⟨rfl, rfl, rfl, by decide +kernel, rfl, by decide +kernel, by decide +kernel⟩
theorem bB_mul (deep m : Nat) : bB deep m = m * bB deep 1 := by
  cases deep with
  | zero => simp [bB]
  | succ n => simp [bB]
theorem ok_law_body (T : Top w K mg) {n : Nat} (ih : Cal P w K mg base CX0 (n + 4) "_law_body" (spBody K n)) : Cal P w K mg base CX0 (n + 5) "_law_body" (spBody K (n + 1)) := by
  refine cal_0 (f_law_body T) (g_law_body T) sc_law_body (fun _ _ _ _ _ _ us hl => match us, hl with | [_, _, _, _], _ => rfl) (fun vs H Q E h => match vs, h with | [_, _, _, _], _ => rfl) (fun cdv A outer s H0 vs Q E hr h => ?_)
  match vs, h with
  | [x, y, z, u], h =>
  obtain ⟨d, sc, nm, ks, deep, m, rfl, rfl, rfl, rfl, hdn, hm, hbb, c0, q⟩ := h
  refine ⟨_, (pss_cons (ps_set (i := 4) sc_law_body.nd rfl (Or.inl rfl) (pe_lst pa_nil))
    (pss_cons (ps_for PassesOwn.never rfl (pi_range1 rfl (z_range T) (pa_cons (pc (c_law_draw T) hr (pa_cons (pv 0) (pa_cons (pe_op op_add (pv 3) pe_int) pa_nil))) pa_nil)) (pg_name (i := 5) sc_law_body.nd rfl (Or.inl rfl))
      (pss_cons (ps_set (i := 6) sc_law_body.nd rfl (Or.inl rfl) (pc (c_law_draw T) hr (pa_cons (pv 0) (pa_cons pe_int pa_nil))))
    (pss_one (ps_if (PW.pt (pw_or (pt_cmpR op_lt (pv 2) pe_int (nomark _)) (pw_or1 (pt_cmpR op_le (pv 6) pe_int (nomark _)))))
      (pss_one (ps_expr (pe_bm PySem.F.plainAttrs_list PySem.F.slot_list_append PySem.F.type_list_append mt_append (pv 4) (pa_cons (pc (c_law_plain T) hr (pa_cons (pv 0) (pa_cons (pv 1) pa_nil))) pa_nil))))
      (pss_one (ps_if (pt_cmpR op_eq (pv 6) pe_int (nomark _))
      (pss_cons (ps_set (i := 7) sc_law_body.nd rfl (Or.inl rfl) (pc ih hr (pa_cons (pv 0) (pa_cons (pv 1) (pa_cons (pe_op op_sub (pv 2) pe_int) (pa_cons pe_int pa_nil))))))
    (pss_cons (ps_set (i := 8) sc_law_body.nd rfl (Or.inl rfl) (pc ih hr (pa_cons (pv 0) (pa_cons (pv 1) (pa_cons (pe_op op_sub (pv 2) pe_int) (pa_cons pe_int pa_nil))))))
    (pss_one (ps_if (pt_cmpR op_eq (pc (c_law_draw T) hr (pa_cons (pv 0) (pa_cons pe_int pa_nil))) pe_int (nomark _))
      (pss_one (ps_expr (pe_bm PySem.F.plainAttrs_list PySem.F.slot_list_append PySem.F.type_list_append mt_append (pv 4) (pa_cons (pe_tup (pa_cons pe_str (pa_cons (pc (c_law_variable T) hr (pa_cons (pv 0) pa_nil)) (pa_cons (pc (c_law_draw T) hr (pa_cons (pv 0) (pa_cons pe_int pa_nil))) (pa_cons (pv 7) (pa_cons (pv 8) pa_nil)))))) pa_nil))))
      (pss_one (ps_expr (pe_bm PySem.F.plainAttrs_list PySem.F.slot_list_append PySem.F.type_list_append mt_append (pv 4) (pa_cons (pe_tup (pa_cons pe_str (pa_cons (pc (c_law_variable T) hr (pa_cons (pv 0) pa_nil)) (pa_cons (pc (c_law_variable T) hr (pa_cons (pv 0) pa_nil)) (pa_cons (pv 7) (pa_cons (pv 8) pa_nil)))))) pa_nil))))))))
      (pss_one (ps_expr (pe_bm PySem.F.plainAttrs_list PySem.F.slot_list_append PySem.F.type_list_append mt_append (pv 4) (pa_cons (pe_tup (pa_cons pe_str (pa_cons (pc (c_law_draw T) hr (pa_cons (pv 0) (pa_cons pe_int pa_nil))) (pa_cons (pc ih hr (pa_cons (pv 0) (pa_cons (pv 1) (pa_cons (pe_op op_sub (pv 2) pe_int) (pa_cons pe_int pa_nil))))) pa_nil)))) pa_nil))))))))))
    (pss_one (ps_ret (pv 4))))), ?_⟩
  refine ⟨(by show 0 ≤ sizeLine; decide), fun p hp => ?_⟩
  have s0 := smNew1 hp (.lst [])
  have hne : p ≠ d := fun e => c0.1.1.ne (by rw [← e]; exact hp)
  have h0 := c0.1.1.ne
  refine ⟨_, rfl, _, rfl, _, _, rfl, rfl, ?_⟩
  refine ⟨d, sc, _, rfl, rfl, c0.1.keep s0, by omega, by omega, fun r H1 r0 r1 b1 d1 => ?_⟩
  obtain ⟨k, rfl, hk⟩ := draw_of r0 r1
  refine ⟨_, rfl, by omega, by omega, ?_⟩
  have hp1 : H1 p = some (.lst []) := b1.get hne upd_same
  have st : BI K ks H0 d sc p deep 0 (bB deep 1) H1 := by
    refine ⟨[], [], fun c u z => ?_, d1.1, hp1, .nil, rfl, rfl, by simp [dB], rfl, by simp [cB], rfl⟩
    by_cases hc : c = d
    · rw [hc, del_same] at z
      cases z
    · rw [del_ne hc] at z
      have hcp : c ≠ p := fun q => by
        rw [q, hp] at z
        cases z
      rw [del_ne hcp, del_ne hc]
      exact b1.get hc (s0 _ _ z)
  rw [show ((k : Int)).toNat = k from rfl]
  refine for_it (walk_range (lo := 0) (n := k)) (fun i σ H' => BI K ks H0 d sc p deep i (bB deep 1) H' ∧ ∃ v5 v6 v7 v8, σ = [some (.ref d), some (.ref nm), some (.int deep), some (.int m), some (.ref p), v5, v6, v7, v8]) ⟨st, _, _, _, _, rfl⟩ (fun _ _ _ _ _ => trivial) ?_ ?_
  · rintro i x σ H2 H3 hi ⟨⟨l, acc, i1, i2, i3, i4, i5, i6, i7, i8, i9, i10⟩, v5, v6, v7, v8, rfl⟩ ⟨rfl, rfl⟩
    have c2 := bi_ctx c0 i1 i2
    have step := fun (H3 : Hp) (v : V) (s : Stm) => bi_step (ks := ks) (H2 := H3) (v := v) (s := s) h0 hp hne l acc i1 i2 i3 i4 i5 i6 i7 i8 i9 i10
    have bB1 : 1 ≤ bB deep 1 := by
      cases deep with
      | zero => exact Nat.le_refl _
      | succ n => show 1 ≤ 1 * _; omega
    have ll : acc.length ≤ 1000 := by
      rw [DpAll.len i4, encB_map, List.length_map, i8]
      omega
    refine ⟨_, rfl, d, sc, _, rfl, rfl, c2.1, by decide, by decide, fun at_ H4 a0 a1 b4 d4 => ?_⟩
    have c4 := c2.but b4 d4
    have hp4 := b4.get hne i3
    refine ⟨_, rfl, _, _, rfl, rfl, _, rfl, ?_⟩
    refine ifB (fun _ => ifT rfl ?_) (fun hde => ?_)
    · refine ⟨_, rfl, .inl ⟨rfl, _, SqL.of hp4⟩, ?_⟩
      refine ⟨_, rfl, _, rfl, d, sc, nm, ks, rfl, rfl, c4, fun s v H5 fs ws vs5 b5 d5 hv => ?_⟩
      refine ⟨p, acc, v, rfl, rfl, b5.get hne hp4, small1000 ll, ?_⟩
      exact ⟨step H5 v s (b4.trans b5) d5.1 (Dp.keep (nw_back (gro_but b4 d4.1.ne)) hv) ws (flat_kS fs) (by rw [(flat_d fs).1]; omega) (by rw [(flat_d fs).2]; exact bB1) vs5, _, _, _, _, rfl⟩
    refine ⟨_, rfl, _, _, rfl, rfl, _, rfl, ?_⟩
    refine ifB (fun _ => ?_) (fun hat => ?_)
    · refine ⟨_, rfl, .inl ⟨rfl, _, SqL.of hp4⟩, ?_⟩
      refine ⟨_, rfl, _, rfl, d, sc, nm, ks, rfl, rfl, c4, fun s v H5 fs ws vs5 b5 d5 hv => ?_⟩
      refine ⟨p, acc, v, rfl, rfl, b5.get hne hp4, small1000 ll, ?_⟩
      exact ⟨step H5 v s (b4.trans b5) d5.1 (Dp.keep (nw_back (gro_but b4 d4.1.ne)) hv) ws (flat_kS fs) (by rw [(flat_d fs).1]; omega) (by rw [(flat_d fs).2]; exact bB1) vs5, _, _, _, _, rfl⟩
    have hd1 : 1 ≤ deep := by
      have : ¬ ((deep : Int) < 1) := of_decide_eq_false hde
      omega
    obtain ⟨e, rfl⟩ : ∃ e, deep = e + 1 := ⟨deep - 1, by omega⟩
    have hbe : bB (e + 1) 1 = 1 + max (2 * bB e 2) (bB e 3) := by show 1 * _ = _; omega
    have hm0 : 1 ≤ m := by omega
    have hbe2 : bB (e + 1) 1 ≤ 1000 := by
      have := bB_mul (e + 1) m
      have := Nat.le_mul_of_pos_left (bB (e + 1) 1) hm0
      omega
    have hde1 : V.int (((e + 1 : Nat) : Int) - 1) = V.int (e : Nat) := congrArg V.int (by omega)
    refine ⟨_, rfl, rfl, _, rfl, ?_⟩
    refine ifB (fun _ => ?_) (fun _ => ?_)
    · -- two bodies
      refine ⟨_, rfl, _, rfl, _, rfl, _, _, rfl, rfl, ?_⟩
      refine ⟨d, sc, nm, ks, e, 2, rfl, rfl, hde1, rfl, by omega, by omega, by omega, c4, fun ra la ya H5 wa ka va da ca b5 d5 na hra hya => ?_⟩
      have c5 := c4.but b5 d5
      refine ⟨_, rfl, _, rfl, _, rfl, _, _, rfl, rfl, ?_⟩
      refine ⟨d, sc, nm, ks, e, 2, rfl, rfl, hde1, rfl, by omega, by omega, by omega, c5, fun rb lb yb H6 wb kb vb db cb b6 d6 nb hrb hyb => ?_⟩
      have c6 := c5.but b6 d6
      have da1 : Dp K (nw H4 H5) (.ref ra) (seqD true (encB true la)) := .lst (SqL.of (by rw [nw_new na]; exact hra)) (DpAll.keep (del_sm _ _) hya)
      have db1 : Dp K (nw H5 H6) (.ref rb) (seqD true (encB true lb)) := .lst (SqL.of (by rw [nw_new nb]; exact hrb)) (DpAll.keep (del_sm _ _) hyb)
      have da2 : Dp K (nw H3 H6) (.ref ra) (seqD true (encB true la)) := Dp.keep ((nw_back (gro_but b4 d4.1.ne)).trans (nw_but b6 c2.1.1.ne)) da1
      have db2 : Dp K (nw H3 H6) (.ref rb) (seqD true (encB true lb)) := Dp.keep (nw_back ((gro_but b4 d4.1.ne).trans (gro_but b5 d5.1.ne))) db1
      have b46 := b4.trans (b5.trans b6)
      have hp6 : H6 p = some (.lst acc) := b46.get hne i3
      refine ⟨_, rfl, d, sc, _, rfl, rfl, d6, by decide, by decide, fun r7 H7 _ _ b7 d7 => ?_⟩
      refine ⟨rfl, _, rfl, ?_⟩
      have hp7 := b7.get hne hp6
      refine ifB (fun _ => ?_) (fun _ => ?_)
      · refine ⟨_, rfl, .inl ⟨rfl, _, SqL.of hp7⟩, ?_⟩
        refine ⟨_, rfl, d, sc, rfl, d7, fun z H8 wz b8 d8 => ?_⟩
        refine ⟨_, rfl, d, sc, _, rfl, rfl, d8, by decide, by decide, fun r9 H9 n0 n1 b9 d9 => ?_⟩
        refine ⟨_, rfl, _, rfl, (by show 5 ≤ sizeLine; decide), fun t ht => ?_⟩
        have bb := b46.trans (b7.trans (b8.trans b9))
        have b79 := b7.trans (b8.trans b9)
        refine ⟨p, acc, .ref t, rfl, rfl, smNew1 ht _ _ _ (bb.get hne i3), small1000 ll, ?_⟩
        refine ⟨step _ (.ref t) (.ite z r9 la lb) (bb.trans (but_sm (smNew1 ht _))) (d9.1.keep (smNew1 ht _)) ?_ ?_ ?_ ?_ ?_ ?_, _, _, _, _, rfl⟩
        · refine .tup (SqT.of (nw_obj ht (gro_but bb d9.1.ne))) ?_
          have ek : Same (nw H3 H6) (nw H3 (upd H9 t (.tup [.str "if", .str z, .int r9, .ref ra, .ref rb]))) := (nw_but b79 c2.1.1.ne).trans (nw_keep (smNew1 ht _))
          exact .cons (.str _) (.cons (.str _) (.cons (.int _) (.cons (Dp.keep ek da2) (.cons (Dp.keep ek db2) .nil))))
        · show (isWord z && (decide _ && decide _) && (wB la && wB lb)) = true
          rw [vars_word _ wz, wa, wb, decide_eq_true (by omega), decide_eq_true (by omega)]
          rfl
        · show (kB ks la && kB ks lb) = true
          rw [ka, kb]
          rfl
        · show max (dB la) (dB lb) ≤ e + 1
          omega
        · show 1 + cB la + cB lb ≤ _
          omega
        · show (isV z && (vB la && vB lb)) = true
          rw [isV_of wz, va, vb]
          rfl
      · refine ⟨_, rfl, .inl ⟨rfl, _, SqL.of hp7⟩, ?_⟩
        refine ⟨_, rfl, d, sc, rfl, d7, fun z H8 wz b8 d8 => ?_⟩
        refine ⟨_, rfl, d, sc, rfl, d8, fun z2 H9 wz2 b9 d9 => ?_⟩
        refine ⟨_, rfl, _, rfl, (by show 5 ≤ sizeLine; decide), fun t ht => ?_⟩
        have bb := b46.trans (b7.trans (b8.trans b9))
        have b79 := b7.trans (b8.trans b9)
        refine ⟨p, acc, .ref t, rfl, rfl, smNew1 ht _ _ _ (bb.get hne i3), small1000 ll, ?_⟩
        refine ⟨step _ (.ref t) (.same z z2 la lb) (bb.trans (but_sm (smNew1 ht _))) (d9.1.keep (smNew1 ht _)) ?_ ?_ ?_ ?_ ?_ ?_, _, _, _, _, rfl⟩
        · refine .tup (SqT.of (nw_obj ht (gro_but bb d9.1.ne))) ?_
          have ek : Same (nw H3 H6) (nw H3 (upd H9 t (.tup [.str "same", .str z, .str z2, .ref ra, .ref rb]))) := (nw_but b79 c2.1.1.ne).trans (nw_keep (smNew1 ht _))
          exact .cons (.str _) (.cons (.str _) (.cons (.str _) (.cons (Dp.keep ek da2) (.cons (Dp.keep ek db2) .nil))))
        · show (isWord z && isWord z2 && (wB la && wB lb)) = true
          rw [vars_word _ wz, vars_word _ wz2, wa, wb]
          rfl
        · show (kB ks la && kB ks lb) = true
          rw [ka, kb]
          rfl
        · show max (dB la) (dB lb) ≤ e + 1
          omega
        · show 1 + cB la + cB lb ≤ _
          omega
        · show (isV z && isV z2 && (vB la && vB lb)) = true
          rw [isV_of wz, isV_of wz2, va, vb]
          rfl
    · -- repeat
      refine ⟨_, rfl, .inl ⟨rfl, _, SqL.of hp4⟩, ?_⟩
      refine ⟨_, rfl, d, sc, _, rfl, rfl, d4, by decide, by decide, fun r5 H5 n0 n1 b5 d5 => ?_⟩
      have c5 := c4.but b5 d5
      refine ⟨_, rfl, _, rfl, _, rfl, _, _, rfl, rfl, ?_⟩
      refine ⟨d, sc, nm, ks, e, 3, rfl, rfl, hde1, rfl, by omega, by omega, by omega, c5, fun ra la ya H6 wa ka va da ca b6 d6 na hra hya => ?_⟩
      refine ⟨(by show 3 ≤ sizeLine; decide), fun t ht => ?_⟩
      have da1 : Dp K (nw H5 H6) (.ref ra) (seqD true (encB true la)) := .lst (SqL.of (by rw [nw_new na]; exact hra)) (DpAll.keep (del_sm _ _) hya)
      have bb := b4.trans (b5.trans b6)
      refine ⟨p, acc, .ref t, rfl, rfl, smNew1 ht _ _ _ (bb.get hne i3), small1000 ll, ?_⟩
      refine ⟨step _ (.ref t) (.rep r5 la) (bb.trans (but_sm (smNew1 ht _))) (d6.1.keep (smNew1 ht _)) ?_ ?_ ?_ ?_ ?_ ?_, _, _, _, _, rfl⟩
      · refine .tup (SqT.of (nw_obj ht (gro_but bb d6.1.ne))) ?_
        exact .cons (.str _) (.cons (.int _) (.cons (Dp.keep ((nw_back ((gro_but b4 d4.1.ne).trans (gro_but b5 d5.1.ne))).trans (nw_keep (smNew1 ht _))) da1) .nil))
      · show (decide _ && decide _ && wB la) = true
        rw [wa, decide_eq_true (by omega), decide_eq_true (by omega)]
        rfl
      · exact ka
      · exact da
      · show 1 + cB la ≤ _
        omega
      · exact va
  · rintro σ H2 ⟨⟨l, acc, i1, i2, i3, i4, i5, i6, i7, i8, i9, i10⟩, v5, v6, v7, v8, rfl⟩
    refine ⟨_, rfl, ?_⟩
    have c2 := bi_ctx c0 i1 i2
    refine q p l acc H2 i5 i6 i10 i7 ?_ (i1.trans (del_sm _ _)) c2.1 hp i3 i4
    rw [bB_mul]
    exact Nat.le_trans i9 (Nat.mul_le_mul_right _ (by omega))
theorem c_law_body (T : Top w K mg) : ∀ n, Cal P w K mg base CX0 (n + 4) "_law_body" (spBody K n)
  | 0 => cal_never (f_law_body T) (g_law_body T) (ps := ["_law_draws", "_law_names", "_law_deep", "_law_most"]) (fun _ _ _ _ _ _ us hl => match us, hl with | [_, _, _, _], _ => rfl) fun vs H Q E h => by
      match vs, h with
      | [x, y, z, u], h =>
      obtain ⟨d, sc, nm, ks, deep, m, _, _, _, _, hn, _⟩ := h
      omega
  | n + 1 => ok_law_body T (c_law_body T n)
end
end RM

set_option Elab.async false
set_option linter.all false
set_option maxRecDepth 100000
set_option maxHeartbeats 4000000
namespace RM
open PySem PySem.Spec PyProof.Rows L2
theorem ty_flat {K : PySem.W.Frag} {H : Hp} {x : V} {d : PyData} (h : Dp K H x d) (f : (∃ z, d = .str z) ∨ ∃ n, d = .int n) : ∃ t, TyX K H x t ∧ PySem.W.kitAny K t [.type "list", .type "tuple"] = some false := by
  rcases f with ⟨z, rfl⟩ | ⟨n, rfl⟩
  · obtain rfl := Dp.str_inv h
    exact ⟨.type "str", .base (.str _), kitAny_cons (b := false) (kit_ty (by decide +kernel)) (fun _ => kitAny_cons (b := false) (kit_ty (by decide +kernel)) (fun _ => rfl) (fun z => by cases z)) (fun z => by cases z)⟩
  · obtain rfl := Dp.int_inv h
    exact ⟨.type "int", .base (.int _), kitAny_cons (b := false) (kit_ty (by decide +kernel)) (fun _ => kitAny_cons (b := false) (kit_ty (by decide +kernel)) (fun _ => rfl) (fun z => by cases z)) (fun z => by cases z)⟩
section
variable {P : Program} {w : World} {K : PySem.W.Frag} {mg : Str → Option Value} {base : Heap}
/-! ### _law_size -/
def spLSize (K : PySem.W.Frag) (n : Nat) : Sp := fun vs H Q _ => match vs with
  | [b] => ∃ (fl : Bool) (l : List Stm), Dp K H b (seqD fl (encB fl l)) ∧ dB l ≤ n ∧ ∀ H', Same H H' → Q (.int (cB l : Nat)) H'
  | _ => False
theorem sc_law_size : FnScope ["_law_body_here", "_law_many", "_law_one", "_law_part"] ["_law_body_here"] (defScope s_law_size) := ⟨rfl, rfl, rfl, by decide +kernel, rfl, by decide +kernel, by decide +kernel⟩
theorem ok_law_size (T : Top w K mg) {n : Nat} (ih : Cal P w K mg base CX0 (n + 1) "_law_size" (spLSize K n)) : Cal P w K mg base CX0 (n + 2) "_law_size" (spLSize K (n + 1)) := by
  refine cal_0 (f_law_size T) (g_law_size T) sc_law_size (fun _ _ _ _ _ _ us hl => match us, hl with | [_], _ => rfl) (fun vs H Q E h => match vs, h with | [_], _ => rfl) (fun cdv A outer s H vs Q E hr h => ?_)
  match vs, h with
  | [b], h =>
  obtain ⟨fl, l, hb, hn, q⟩ := h
  obtain ⟨a, xs, rfl, ha, hx⟩ := seqD_inv hb
  have lx : xs.length = l.length := by rw [DpAll.len hx, encB_map, List.length_map]
  refine ⟨_, (pss_cons (ps_set (i := 1) sc_law_size.nd rfl (Or.inl rfl) (pcb (z_len T) call_len_seq boot_len (pa_cons (pv 0) pa_nil)))
    (pss_cons (ps_for PassesOwn.never rfl (pi_seqA (pv 0)) (pg_name (i := 2) sc_law_size.nd rfl (Or.inl rfl))
      (pss_one (ps_set (i := 1) sc_law_size.nd rfl (Or.inl rfl) (pe_op op_add (pv 1) (pcb (z_sum T) (cr_sum rfl) boot_sum (pa_cons (pe_lc (own := [("_law_part", 3)]) rfl sc_law_size.nd (pi_seqA (pe_slice sl_tup (pv 2) (po_some pe_int) po_none)) (blkOk_by (own := [("_law_part", 3)]) (N := ["_law_body_here", "_law_many", "_law_one", "_law_part"]) (sc := defScope s_law_size) (by decide +kernel)) (fun _ _ _ _ _ => (pg_name (i := 3) sc_law_size.nd rfl (Or.inl rfl) (Or.inr rfl))) (fun _ _ _ _ _ => (pts_one (pt_val (pcb (z_isinstance T) (call_isiT' (K := K) rfl) boot_isinstance (pa_cons (pv 3) (pa_cons (pe_tup (pa_cons (pty (z_list T) boot_list) (pa_cons (pty (z_tuple T) boot_tuple) pa_nil))) pa_nil)))))) (fun _ _ _ _ _ => (pc ih hr (pa_cons (pv 3) pa_nil)))) pa_nil))))))
    (pss_one (ps_ret (pv 1))))), ?_⟩
  refine ⟨_, rfl, a, xs, rfl, ha, ?_⟩
  refine ⟨_, rfl, ?_⟩
  refine seqA_of ha (Same.refl H) fun J wk => ?_
  refine for_it wk (fun i σ H' => Same H H' ∧ ∃ v2 v3, σ = [some (.ref a), some (.int (((cB (l.take i) + (l.length - i) : Nat)) : Int)), v2, v3]) ⟨Same.refl H, none, none, ?_⟩ (fun i σ H' _ h => h.1) ?_ ?_
  · rw [List.take_zero, ← lx]
    show _ = [_, some (V.int ((0 + (xs.length - 0) : Nat) : Int)), _, _]
    rw [Nat.zero_add, Nat.sub_zero]
    rfl
  · rintro i x σ H1 H2 hi ⟨s1, v2, v3, rfl⟩ ⟨rfl, hx1⟩
    obtain ⟨d, hd1, hd2⟩ := DpAll.getV hx hx1
    obtain ⟨st, hst, rfl⟩ := encB_get hd1
    have hm : st ∈ l := List.mem_of_getElem? hst
    have dm := dB_mem hm
    obtain ⟨sa, sxs, rfl, hsa, hsx⟩ := shape_of (Dp.keep s1 hd2)
    refine ⟨_, rfl, ?_⟩
    refine ⟨_, rfl, _, rfl, _, _, rfl, hsa, cut_not, fun p hp => ?_⟩
    rw [cut_tail]
    have s2 := smNew1 hp (.tup sxs)
    refine seqA_of (.inr (SqT.of upd_same)) (Same.refl _) fun J2 wk2 => ?_
    intro D nD
    have hl : sxs.length = st.flats.length + st.bodies.length := by
      rw [DpAll.len hsx, List.length_append, List.length_map]
    refine lc_opt wk2 (fun (c : Nat) y _ => y = .int (c : Nat)) (fun i => if i < st.flats.length then none else (st.bodies[i - st.flats.length]?).map cB) nD (small1000 (by have := form_five st; have := ShapeS.items hsx; omega)) (fun H' e => e) (fun _ _ _ _ h _ => h) (fun _ _ _ _ _ h _ => h) ?_ ?_
    · rintro j y H3 H4 N hj e ⟨rfl, hy⟩ hk hno
      obtain ⟨d, hd3, hd4⟩ := DpAll.getV hsx hy
      have hd5 := Dp.keep (s2.trans e) hd4
      refine ⟨rfl, ?_⟩
      refine ⟨_, rfl, (by show 2 ≤ sizeLine; decide), fun p2 hp2 => ?_⟩
      have s3 := smNew1 hp2 (.tup [.ty "list", .ty "tuple"])
      rcases item_at st _ hd3 with ⟨hf, hflat⟩ | ⟨hf, bd, hbm, hba, rfl⟩
      · obtain ⟨ty, ht, hk2⟩ := ty_flat (Dp.keep s3 hd5) hflat
        refine ⟨_, p2, _, ty, _, false, rfl, upd_same, .cons (.ty _) (.cons (.ty _) .nil), ht, hk2, _, rfl, ifF rfl ?_⟩
        exact hno (if_pos hf) _ s3
      · obtain ⟨ba, bxs, rfl, hb1, hb2⟩ := seqD_inv hd5
        obtain ⟨ty, ht, hk2⟩ := ty_seq hb1 s3
        refine ⟨_, p2, _, ty, _, true, rfl, upd_same, .cons (.ty _) (.cons (.ty _) .nil), ht, hk2, _, rfl, ifT rfl ?_⟩
        have := dS_mem hbm
        refine ⟨_, rfl, fl, bd, Dp.keep s3 hd5, by omega, fun H5 e5 => ?_⟩
        exact hk _ _ (cB bd) (by rw [if_neg hf, hba]; rfl) (s3.trans e5) rfl
    · intro H3 ys e hD hp'
      rw [hl, bodies_from] at hp'
      have hys := paired_eq hp'
      have hys2 : ys = ((st.bodies.map cB).map fun c : Nat => (c : Int)).map V.int := by rw [hys, List.map_map, List.map_map, List.map_map]; rfl
      refine ⟨D, _, rfl, SqL.of (by rw [hD, hys2]), ?_⟩
      refine ⟨_, _, rfl, rfl, ?_⟩
      refine ⟨s1.trans (s2.trans e), some (.ref sa), v3, ?_⟩
      have e1 : V.int (((cB (l.take i) + (l.length - i) : Nat) : Int) + ((st.bodies.map cB).map fun c : Nat => (c : Int)).sum) = V.int ((cB (l.take (i + 1)) + (l.length - (i + 1)) : Nat) : Int) := by
        rw [cB_take hst, cS_eq, List.map_map]
        have := cBs_sum st.bodies
        have e2 : (st.bodies.map ((fun c : Nat => (c : Int)) ∘ cB)) = st.bodies.map fun b => ((cB b : Nat) : Int) := rfl
        rw [e2, this]
        exact congrArg V.int (by omega)
      rw [← e1]
      rfl
  · rintro σ H1 ⟨s1, v2, v3, rfl⟩
    refine ⟨_, rfl, ?_⟩
    rw [lx, List.take_length, Nat.sub_self, Nat.add_zero]
    exact q H1 s1
theorem c_law_size (T : Top w K mg) : ∀ n, Cal P w K mg base CX0 (n + 1) "_law_size" (spLSize K n)
  | 0 => cal_never (f_law_size T) (g_law_size T) (ps := ["_law_body_here"]) (fun _ _ _ _ _ _ us hl => match us, hl with | [_], _ => rfl) fun vs H Q E h => by
      match vs, h with
      | [b], h =>
      obtain ⟨fl, l, _, hn, _⟩ := h
      have := dB_one l
      omega
  | n + 1 => ok_law_size T (c_law_size T n)
/-! ### _law_prints -/
def isP : Stm → Bool
  | .print _ => true | _ => false
def turnsS : Stm → Int
  | .rep n _ => n | _ => 1
def pM : Stm → Nat
  | .print _ => 1 | .ite _ _ a b => max (pB a) (pB b) | .same _ _ a b => max (pB a) (pB b) | .rep _ a => pB a | _ => 0
theorem isP_word (s : Stm) : decide (V.str s.word = V.str "print") = isP s := by
  cases s <;> rfl
theorem word_rep (s : Stm) : s.word = "repeat" ↔ ∃ n a, s = .rep n a := by
  constructor
  · intro h
    cases s <;> first | exact ⟨_, _, rfl⟩ | exact absurd (show _ = (_ : Str) from h) (by simp only [Stm.word]; decide)
  · rintro ⟨n, a, rfl⟩
    rfl
def pNs (s : Stm) : List Int := (if isP s = true then 1 else 0) :: s.bodies.map fun b => ((pB b : Nat) : Int)
theorem pMax {s : Stm} {m : Int} (h1 : m ∈ pNs s) (h2 : ∀ y ∈ pNs s, y ≤ m) : m = (pM s : Nat) := by
  unfold pNs at h1 h2
  cases s <;> simp only [isP, Stm.bodies, List.map_nil, List.map_cons, List.mem_cons, List.not_mem_nil, or_false, if_true, if_false, Bool.false_eq_true, forall_eq_or_imp, forall_eq, pM] at h1 h2 ⊢ <;> omega
theorem pS_eq {s : Stm} (h : wS s = true) : turnsS s * ((pM s : Nat) : Int) = ((pS s : Nat) : Int) := by
  cases s <;> simp only [turnsS, pM, pS, Int.one_mul]
  rename_i n a
  simp only [wS, Bool.and_eq_true, decide_eq_true_eq] at h
  have : (n.toNat : Int) = n := by omega
  rw [Int.natCast_mul, this]
def spLPrints (K : PySem.W.Frag) (n : Nat) : Sp := fun vs H Q _ => match vs with
  | [b] => ∃ (fl : Bool) (l : List Stm), Dp K H b (seqD fl (encB fl l)) ∧ wB l = true ∧ dB l ≤ n ∧ ∀ H', Same H H' → Q (.int (pB l : Nat)) H'
  | _ => False
theorem sc_law_prints : FnScope ["_law_body_here", "_law_many", "_law_one", "_law_inner", "_law_turns", "_law_part"] ["_law_body_here"] (defScope s_law_prints) := ⟨rfl, rfl, rfl, by decide +kernel, rfl, by decide +kernel, by decide +kernel⟩
theorem ok_law_prints (T : Top w K mg) {n : Nat} (ih : Cal P w K mg base CX0 (n + 1) "_law_prints" (spLPrints K n)) : Cal P w K mg base CX0 (n + 2) "_law_prints" (spLPrints K (n + 1)) := by
  refine cal_0 (f_law_prints T) (g_law_prints T) sc_law_prints (fun _ _ _ _ _ _ us hl => match us, hl with | [_], _ => rfl) (fun vs H Q E h => match vs, h with | [_], _ => rfl) (fun cdv A outer s H vs Q E hr h => ?_)
  match vs, h with
  | [b], h =>
  obtain ⟨fl, l, hb, hw, hn, q⟩ := h
  obtain ⟨a, xs, rfl, ha, hx⟩ := seqD_inv hb
  have lx : xs.length = l.length := by rw [DpAll.len hx, encB_map, List.length_map]
  refine ⟨_, (pss_cons (ps_set (i := 1) sc_law_prints.nd rfl (Or.inl rfl) pe_int)
    (pss_cons (ps_for PassesOwn.never rfl (pi_seqA (pv 0)) (pg_name (i := 2) sc_law_prints.nd rfl (Or.inl rfl))
      (pss_cons (ps_setLc (i := 3) (own := [("_law_part", 5)]) rfl sc_law_prints.nd rfl rfl (sw_true rfl rfl rfl (by decide +kernel)) (pi_seqA (pe_slice sl_tup (pv 2) (po_some pe_int) po_none)) (blkOk_by (own := [("_law_part", 5)]) (N := ["_law_body_here", "_law_many", "_law_one", "_law_inner", "_law_turns", "_law_part"]) (sc := defScope s_law_prints) (by decide +kernel)) (fun _ _ _ _ _ => (pg_name (i := 5) sc_law_prints.nd rfl (Or.inl rfl) (Or.inr rfl))) (fun _ _ _ _ _ => (pts_one (pt_val (pcb (z_isinstance T) (call_isiT' (K := K) rfl) boot_isinstance (pa_cons (pv 5) (pa_cons (pe_tup (pa_cons (pty (z_list T) boot_list) (pa_cons (pty (z_tuple T) boot_tuple) pa_nil))) pa_nil)))))) (fun _ _ _ _ _ => (pc ih hr (pa_cons (pv 5) pa_nil))))
    (pss_cons (ps_set (i := 4) sc_law_prints.nd rfl (Or.inl rfl) (pe_ifExp (pt_cmpR op_eq (pe_ix ix_tup (pv 2) pe_int (fun _ _ => rfl)) pe_str (nomark _)) (pe_ix ix_tup (pv 2) pe_int (fun _ _ => rfl)) pe_int))
    (pss_one (ps_set (i := 1) sc_law_prints.nd rfl (Or.inl rfl) (pe_op op_add (pv 1) (pe_op op_mul (pv 4) (pcb (z_max T) (cr_max rfl) boot_max (pa_cons (pe_op op_cat (pe_lst (pa_cons (pct (z_int T) call_int1 boot_int (pa_cons (pe_cmpR op_eq (pe_ix ix_tup (pv 2) pe_int (fun _ _ => rfl)) pe_str (nomark _)) pa_nil)) pa_nil)) (pv 3)) pa_nil)))))))))
    (pss_one (ps_ret (pv 1))))), ?_⟩
  refine ⟨_, rfl, ?_⟩
  refine seqA_of ha (Same.refl H) fun J wk => ?_
  refine for_it wk (fun i σ H' => Same H H' ∧ ∃ v2 v3 v4 v5, σ = [some (.ref a), some (.int ((pB (l.take i) : Nat) : Int)), v2, v3, v4, v5]) ⟨Same.refl H, none, none, none, none, rfl⟩ (fun i σ H' _ h => h.1) ?_ ?_
  · rintro i x σ H1 H2 hi ⟨s1, v2, v3, v4, v5, rfl⟩ ⟨rfl, hx1⟩
    obtain ⟨d, hd1, hd2⟩ := DpAll.getV hx hx1
    obtain ⟨st, hst, rfl⟩ := encB_get hd1
    have hm : st ∈ l := List.mem_of_getElem? hst
    have dm := dB_mem hm
    have ws := wB_all hw st hm
    obtain ⟨sa, sxs, rfl, hsa, hsx⟩ := shape_of (Dp.keep s1 hd2)
    refine ⟨_, rfl, _, rfl, _, _, rfl, hsa, cut_not, fun p hp => ?_⟩
    rw [cut_tail]
    have s2 := smNew1 hp (.tup sxs)
    refine seqA_of (.inr (SqT.of upd_same)) (Same.refl _) fun J2 wk2 => ?_
    intro D nD
    have hl : sxs.length = st.flats.length + st.bodies.length := by
      rw [DpAll.len hsx, List.length_append, List.length_map]
    have hb4 : st.bodies.length ≤ 2 := by cases st <;> simp [Stm.bodies]
    have hl4 : sxs.length ≤ 4 := by have := form_five st; have := ShapeS.items hsx; omega
    refine lc_opt wk2 (fun (c : Nat) y _ => y = .int (c : Nat)) (fun i => if i < st.flats.length then none else (st.bodies[i - st.flats.length]?).map pB) nD (small1000 (by omega)) (fun H' e => e) (fun _ _ _ _ h _ => h) (fun _ _ _ _ _ h _ => h) ?_ ?_
    · rintro j y H3 H4 N hj e ⟨rfl, hy⟩ hk hno
      obtain ⟨d, hd3, hd4⟩ := DpAll.getV hsx hy
      have hd5 := Dp.keep (s2.trans e) hd4
      refine ⟨rfl, ?_⟩
      refine ⟨_, rfl, (by show 2 ≤ sizeLine; decide), fun p2 hp2 => ?_⟩
      have s3 := smNew1 hp2 (.tup [.ty "list", .ty "tuple"])
      rcases item_at st _ hd3 with ⟨hf, hflat⟩ | ⟨hf, bd, hbm, hba, rfl⟩
      · obtain ⟨ty, ht, hk2⟩ := ty_flat (Dp.keep s3 hd5) hflat
        refine ⟨_, p2, _, ty, _, false, rfl, upd_same, .cons (.ty _) (.cons (.ty _) .nil), ht, hk2, _, rfl, ifF rfl ?_⟩
        exact hno (if_pos hf) _ s3
      · obtain ⟨ba, bxs, rfl, hb1, hb2⟩ := seqD_inv hd5
        obtain ⟨ty, ht, hk2⟩ := ty_seq hb1 s3
        refine ⟨_, p2, _, ty, _, true, rfl, upd_same, .cons (.ty _) (.cons (.ty _) .nil), ht, hk2, _, rfl, ifT rfl ?_⟩
        have := dS_mem hbm
        refine ⟨_, rfl, fl, bd, Dp.keep s3 hd5, wB_of ws bd hbm, by omega, fun H5 e5 => ?_⟩
        exact hk _ _ (pB bd) (by rw [if_neg hf, hba]; rfl) (s3.trans e5) rfl
    · intro H3 ys e hD hp'
      rw [hl, bodies_from] at hp'
      have hys := paired_eq hp'
      have hys2 : ys = (st.bodies.map fun b => ((pB b : Nat) : Int)).map V.int := by rw [hys, List.map_map, List.map_map]; rfl
      have s4 : Same H H3 := s1.trans (s2.trans e)
      have hsa3 : SqT K H3 sa (.str st.word :: sxs) := smT (s2.trans e) hsa
      -- the turns
      refine ⟨_, rfl, _, _, _, _, rfl, rfl, hsa3, at0, rfl, _, rfl, ?_⟩
      refine ifB (fun c => ?_) (fun c => ?_)
      · obtain ⟨n', bd, rfl⟩ := (word_rep st).mp (V.str.inj (of_decide_eq_true c))
        obtain ⟨z1, r1, rfl, hz1, hz2⟩ := DpAll.cons_inv hsx
        obtain rfl := Dp.int_inv hz1
        refine ⟨_, rfl, _, _, _, _, rfl, rfl, hsa3, at1, ?_⟩
        have wn : 0 ≤ n' ∧ n' ≤ 3 := by
          simp only [wS, Bool.and_eq_true, decide_eq_true_eq] at ws
          exact ws.1
        refine ⟨_, rfl, _, rfl, _, rfl, _, _, _, _, rfl, rfl, hsa3, at0, rfl, .inr ⟨_, rfl, ?_⟩⟩
        refine ⟨(by show 1 ≤ sizeLine; decide), fun p3 hp3 => ?_⟩
        have s5 := smNew1 hp3 (.lst [.int (if decide (V.str (Stm.rep n' bd).word = V.str "print") = true then 1 else 0)])
        refine ⟨_, rfl, p3, D, _, _, rfl, rfl, upd_same, s5 _ _ hD, Nat.le_of_lt (small1000 (by rw [hys2, List.length_map, List.length_map]; show 1 + (Stm.rep n' bd).bodies.length ≤ 1000; omega)), fun p4 hp4 => ?_⟩
        have hpn : [V.int (if decide (V.str (Stm.rep n' bd).word = V.str "print") = true then 1 else 0)] ++ ys = (pNs (Stm.rep n' bd)).map V.int := by
          rw [hys2, isP_word]
          rfl
        rw [hpn]
        refine ⟨p4, pNs (Stm.rep n' bd), rfl, SqL.of upd_same, by simp [pNs], fun m m1 m2 => ?_⟩
        have em := pMax m1 m2
        subst em
        refine ⟨_, _, rfl, rfl, .inl ⟨by omega, by omega⟩, _, _, rfl, rfl, ?_⟩
        refine ⟨s4.trans (smNew s5 hp4 _), some (.ref sa), some (.ref D), some (.int n'), v5, ?_⟩
        have e1 : V.int (((pB (l.take i) : Nat) : Int) + turnsS (Stm.rep n' bd) * ((pM (Stm.rep n' bd) : Nat) : Int)) = V.int ((pB (l.take (i + 1)) : Nat) : Int) := by
          rw [pS_eq ws, pB_take hst]
          exact congrArg V.int (by omega)
        rw [← e1]
        rfl
      · have et : turnsS st = 1 := by
          cases st <;> first | rfl | exact absurd rfl (of_decide_eq_false c)
        refine ⟨_, rfl, _, rfl, _, rfl, _, _, _, _, rfl, rfl, hsa3, at0, rfl, .inr ⟨_, rfl, ?_⟩⟩
        refine ⟨(by show 1 ≤ sizeLine; decide), fun p3 hp3 => ?_⟩
        have s5 := smNew1 hp3 (.lst [.int (if decide (V.str st.word = V.str "print") = true then 1 else 0)])
        refine ⟨_, rfl, p3, D, _, _, rfl, rfl, upd_same, s5 _ _ hD, Nat.le_of_lt (small1000 (by rw [hys2, List.length_map, List.length_map]; show 1 + st.bodies.length ≤ 1000; omega)), fun p4 hp4 => ?_⟩
        have hpn : [V.int (if decide (V.str st.word = V.str "print") = true then 1 else 0)] ++ ys = (pNs st).map V.int := by
          rw [hys2, isP_word]
          rfl
        rw [hpn]
        refine ⟨p4, pNs st, rfl, SqL.of upd_same, by simp [pNs], fun m m1 m2 => ?_⟩
        have em := pMax m1 m2
        subst em
        refine ⟨_, _, rfl, rfl, .inl ⟨by decide, by decide⟩, _, _, rfl, rfl, ?_⟩
        refine ⟨s4.trans (smNew s5 hp4 _), some (.ref sa), some (.ref D), some (.int 1), v5, ?_⟩
        have e1 : V.int (((pB (l.take i) : Nat) : Int) + 1 * ((pM st : Nat) : Int)) = V.int ((pB (l.take (i + 1)) : Nat) : Int) := by
          rw [← et, pS_eq ws, pB_take hst]
          exact congrArg V.int (by omega)
        rw [← e1]
        rfl
  · rintro σ H1 ⟨s1, v2, v3, v4, v5, rfl⟩
    refine ⟨_, rfl, ?_⟩
    rw [lx, List.take_length]
    exact q H1 s1
theorem c_law_prints (T : Top w K mg) : ∀ n, Cal P w K mg base CX0 (n + 1) "_law_prints" (spLPrints K n)
  | 0 => cal_never (f_law_prints T) (g_law_prints T) (ps := ["_law_body_here"]) (fun _ _ _ _ _ _ us hl => match us, hl with | [_], _ => rfl) fun vs H Q E h => by
      match vs, h with
      | [b], h =>
      obtain ⟨fl, l, _, _, hn, _⟩ := h
      have := dB_one l
      omega
  | n + 1 => ok_law_prints T (c_law_prints T n)
end
end RM

set_option Elab.async false
set_option linter.all false
set_option maxRecDepth 100000
set_option maxHeartbeats 4000000
namespace RM
open PySem PySem.Spec PyProof.Rows L2
theorem DpAll.take {K : PySem.W.Frag} {H : Hp} : ∀ {xs : List V} {ds : List PyData} (m : Nat), DpAll K H xs ds → DpAll K H (xs.take m) (ds.take m)
  | _, _, 0, _ => by rw [List.take_zero, List.take_zero]; exact .nil
  | [], _, m + 1, h => by cases h; exact .nil
  | x :: xs, _, m + 1, h => by
    cases h with
    | cons h t =>
      rw [List.take_succ_cons, List.take_succ_cons]
      exact .cons h (DpAll.take m t)
theorem encB_take (fl : Bool) (l : List Stm) (m : Nat) : encB fl (l.take m) = (encB fl l).take m := by rw [encB_map, encB_map, List.map_take]
theorem dB_le : ∀ {l : List Stm} {m : Nat}, dB (l.take m) ≤ dB l
  | l, 0 => by rw [List.take_zero]; exact dB_one l
  | [], m + 1 => by rw [List.take_nil]; exact Nat.le_refl _
  | s :: r, m + 1 => by
    rw [List.take_succ_cons, dB, dB]
    have := dB_le (l := r) (m := m)
    omega
theorem wB_take {l : List Stm} (h : wB l = true) (m : Nat) : wB (l.take m) = true := by
  rw [← List.take_append_drop m l, wB_app, Bool.and_eq_true] at h
  exact h.1
theorem kB_take {ks : List Str} {l : List Stm} (h : kB ks l = true) (m : Nat) : kB ks (l.take m) = true := by
  rw [← List.take_append_drop m l, kB_app, Bool.and_eq_true] at h
  exact h.1
section
variable {P : Program} {w : World} {K : PySem.W.Frag} {mg : Str → Option Value} {base : Heap}
/-! ### _law_short -/
def spShort (K : PySem.W.Frag) : Sp := fun vs H Q _ => match vs with
  | [b] => ∃ (a : Addr) (xs : List V) (l : List Stm), b = .ref a ∧ SqL K H a xs ∧ DpAll K H xs (encB true l) ∧ wB l = true ∧ dB l ≤ 4 ∧
    ∀ p j H', Same H H' → H p = none → H' p = some (.lst (xs.take j)) → cB (l.take j) ≤ 40 → pB (l.take j) ≤ 6 → Q (.ref p) H'
  | _ => False
theorem sc_law_short : FnScope ["_law_body_here", "_law_left"] ["_law_body_here"] (defScope s_law_short) := ⟨rfl, rfl, rfl, by decide +kernel, rfl, by decide +kernel, by decide +kernel⟩
theorem c_law_short (T : Top w K mg) : Cal P w K mg base CX0 6 "_law_short" (spShort K) := by
  refine cal_0 (f_law_short T) (g_law_short T) sc_law_short (fun _ _ _ _ _ _ us hl => match us, hl with | [_], _ => rfl) (fun vs H Q E h => match vs, h with | [_], _ => rfl) (fun cdv A outer s H vs Q E hr h => ?_)
  match vs, h with
  | [b], h =>
  obtain ⟨a, xs, l, rfl, ha, hx, hw, hd, q⟩ := h
  have lx : xs.length = l.length := by rw [DpAll.len hx, encB_map, List.length_map]
  refine ⟨_, (pss_cons (ps_set (i := 1) sc_law_short.nd rfl (Or.inl rfl) (pct (z_list T) call_list_of boot_list (pa_cons (pv 0) pa_nil)))
    (pss_cons (ps_while PassesOwn.never (PW.pt (pw_or (pt_cmpR op_gt (pc (c_law_size T 4) hr (pa_cons (pv 1) pa_nil)) pe_int (nomark _)) (pw_or1 (pt_cmpR op_gt (pc (c_law_prints T 4) hr (pa_cons (pv 1) pa_nil)) pe_int (nomark _)))))
      (pss_one (ps_expr (pe_bm0 PySem.F.plainAttrs_list PySem.F.slot_list_pop PySem.F.type_list_pop mt_pop (pv 1)))))
    (pss_one (ps_ret (pv 1))))), ?_⟩
  refine ⟨_, rfl, a, xs, rfl, .inl ha, fun p hp => ?_⟩
  refine ⟨fun m σ H' => m ≤ l.length ∧ Same H H' ∧ H' p = some (.lst (xs.take m)) ∧ σ = [some (.ref a), some (.ref p)], ⟨l.length, Nat.le_refl _, smNew1 hp _, by rw [← lx, List.take_length]; exact upd_same, rfl⟩, ?_⟩
  rintro m σ H1 ⟨hm, s1, hp1, rfl⟩
  have dp : ∀ H2, Same H1 H2 → Dp K H2 (.ref p) (seqD true (encB true (l.take m))) := fun H2 s2 => by
    rw [encB_take]
    exact .lst (SqL.of (s2 _ _ hp1)) (DpAll.keep (s1.trans s2) (DpAll.take m hx))
  have pop : ∀ H2, Same H1 H2 → 1 ≤ m → ∃ y, (xs.take m)[(xs.take m).length - 1]? = some y ∧ (upd H2 p (.lst (xs.take m).dropLast)) p = some (.lst (xs.take (m - 1))) := fun H2 s2 h1 => by
    have hl : (xs.take m).length = m := by rw [List.length_take]; omega
    refine ⟨(xs.take m)[(xs.take m).length - 1]'(by omega), List.getElem?_eq_getElem _, ?_⟩
    · rw [upd_same, List.dropLast_eq_take, hl, List.take_take, Nat.min_eq_left (by omega)]
  refine ⟨_, rfl, true, l.take m, dp _ (Same.refl _), Nat.le_trans dB_le hd, fun H2 s2 => ?_⟩
  refine ⟨_, _, rfl, rfl, _, rfl, ifB (fun c => ifT rfl ?_) (fun c => ?_)⟩
  · have c' : (40 : Int) < ((cB (l.take m) : Nat) : Int) := of_decide_eq_true c
    have h1 : 1 ≤ m := by
      cases m with
      | zero => rw [List.take_zero] at c'; simp [cB] at c'
      | succ m => omega
    obtain ⟨y, hy, hu⟩ := pop H2 s2 h1
    refine ⟨fun σ' H' => m - 1 ≤ l.length ∧ Same H H' ∧ H' p = some (.lst (xs.take (m - 1))) ∧ σ' = [some (.ref a), some (.ref p)], fun σ' H' h => ⟨m - 1, by omega, h⟩, ?_⟩
    refine ⟨_, rfl, .inl ⟨rfl, _, SqL.of (s2 _ _ hp1)⟩, p, _, y, rfl, rfl, s2 _ _ hp1, hy, ?_⟩
    exact ⟨by omega, smOut (s1.trans s2) hp _, hu, rfl⟩
  refine ⟨_, rfl, true, l.take m, dp _ s2, wB_take hw m, Nat.le_trans dB_le hd, fun H3 s3 => ?_⟩
  have s23 := s2.trans s3
  refine ⟨_, _, rfl, rfl, _, rfl, ifB (fun c2 => ?_) (fun c2 => ?_)⟩
  · have c' : (6 : Int) < ((pB (l.take m) : Nat) : Int) := of_decide_eq_true c2
    have h1 : 1 ≤ m := by
      cases m with
      | zero => rw [List.take_zero] at c'; simp [pB] at c'
      | succ m => omega
    obtain ⟨y, hy, hu⟩ := pop H3 s23 h1
    refine ⟨fun σ' H' => m - 1 ≤ l.length ∧ Same H H' ∧ H' p = some (.lst (xs.take (m - 1))) ∧ σ' = [some (.ref a), some (.ref p)], fun σ' H' h => ⟨m - 1, by omega, h⟩, ?_⟩
    refine ⟨_, rfl, .inl ⟨rfl, _, SqL.of (s23 _ _ hp1)⟩, p, _, y, rfl, rfl, s23 _ _ hp1, hy, ?_⟩
    exact ⟨by omega, smOut (s1.trans s23) hp _, hu, rfl⟩
  · refine ⟨_, rfl, ?_⟩
    have h1 : ¬ (40 : Int) < ((cB (l.take m) : Nat) : Int) := of_decide_eq_false c
    have h2 : ¬ (6 : Int) < ((pB (l.take m) : Nat) : Int) := of_decide_eq_false c2
    exact q p m H3 (s1.trans s23) hp (s23 _ _ hp1) (by omega) (by omega)
end
end RM

set_option Elab.async false
set_option linter.all false
set_option maxRecDepth 100000
set_option maxHeartbeats 4000000
/-! reads at the start, in plain Lean -/
namespace RM
open PySem PySem.Spec PyProof.Rows L2
abbrev NM := List (Str × Str)
def nmGet (nm : NM) (k : Str) : Option Str := (nm.find? fun q => decide (q.1 = k)).map (·.2)
mutual
def pinS (nm : NM) : Stm → Stm
  | .read v k => match nmGet nm k with
    | some x => .copy v x
    | none => .read v k
  | .ite v n a b => .ite v n (pinB nm a) (pinB nm b)
  | .same v u a b => .same v u (pinB nm a) (pinB nm b)
  | .rep n a => .rep n (pinB nm a)
  | .set v n => .set v n
  | .copy v u => .copy v u
  | .print v => .print v
  | .say n => .say n
  | .wait => .wait
  | .stop => .stop
def pinB (nm : NM) : List Stm → List Stm
  | [] => []
  | s :: r => pinS nm s :: pinB nm r
end
theorem pinB_map (nm : NM) : ∀ l, pinB nm l = l.map (pinS nm)
  | [] => rfl
  | s :: r => by rw [pinB, pinB_map nm r, List.map_cons]
def readsNm (nm : NM) : List Stm := nm.map fun q => .read q.2 q.1
def pinL (nm : NM) (l : List Stm) : List Stm := readsNm nm ++ pinB nm l
theorem pin_bodies (nm : NM) (s : Stm) : (pinS nm s).bodies = s.bodies.map (pinB nm) := by
  cases s with
  | read v k => rw [pinS]; cases nmGet nm k <;> rfl
  | ite v n a b => rw [pinS]; rfl
  | same v n a b => rw [pinS]; rfl
  | rep n a => rw [pinS]; rfl
  | _ => rw [pinS]; rfl
theorem nmGet_mem {nm : NM} {k x : Str} (h : nmGet nm k = some x) : (k, x) ∈ nm := by
  unfold nmGet at h
  obtain ⟨q, hq, rfl⟩ := Option.map_eq_some_iff.mp h
  have h2 := @List.find?_some _ (fun q : Str × Str => decide (q.1 = k)) q nm hq
  rw [← (of_decide_eq_true h2 : q.1 = k)]
  exact List.mem_of_find?_eq_some hq
mutual
theorem wS_pin {nm : NM} (hw : ∀ q ∈ nm, isWord q.2 = true) : ∀ s, wS s = true → wS (pinS nm s) = true
  | .read v k, h => by
    rw [pinS]
    cases e : nmGet nm k with
    | none => exact h
    | some x =>
      rw [wS, Bool.and_eq_true] at h
      show (isWord v && isWord x) = true
      rw [h.1, hw _ (nmGet_mem e)]
      rfl
  | .ite v n a b, h => by
    rw [pinS, wS]
    rw [wS, Bool.and_eq_true, Bool.and_eq_true (wB a)] at h
    rw [h.1, wB_pin hw a h.2.1, wB_pin hw b h.2.2]
    rfl
  | .same v n a b, h => by
    rw [pinS, wS]
    rw [wS, Bool.and_eq_true, Bool.and_eq_true (wB a)] at h
    rw [h.1, wB_pin hw a h.2.1, wB_pin hw b h.2.2]
    rfl
  | .rep n a, h => by
    rw [pinS, wS]
    rw [wS, Bool.and_eq_true] at h
    rw [h.1, wB_pin hw a h.2]
    rfl
  | .set _ _, h => by rw [pinS]; exact h
  | .copy _ _, h => by rw [pinS]; exact h
  | .print _, h => by rw [pinS]; exact h
  | .say _, h => by rw [pinS]; exact h
  | .wait, h => by rw [pinS]; exact h
  | .stop, h => by rw [pinS]; exact h
theorem wB_pin {nm : NM} (hw : ∀ q ∈ nm, isWord q.2 = true) : ∀ l, wB l = true → wB (pinB nm l) = true
  | [], _ => rfl
  | s :: r, h => by
    rw [wB, Bool.and_eq_true] at h
    rw [pinB, wB, wS_pin hw s h.1, wB_pin hw r h.2]
    rfl
end
mutual
theorem dS_pin (nm : NM) : ∀ s, dS (pinS nm s) = dS s
  | .read v k => by rw [pinS]; cases nmGet nm k <;> rfl
  | .ite v n a b => by rw [pinS, dS, dS, dB_pin nm a, dB_pin nm b]
  | .same v n a b => by rw [pinS, dS, dS, dB_pin nm a, dB_pin nm b]
  | .rep n a => by rw [pinS, dS, dS, dB_pin nm a]
  | .set _ _ => by rw [pinS]
  | .copy _ _ => by rw [pinS]
  | .print _ => by rw [pinS]
  | .say _ => by rw [pinS]
  | .wait => by rw [pinS]
  | .stop => by rw [pinS]
theorem dB_pin (nm : NM) : ∀ l, dB (pinB nm l) = dB l
  | [] => rfl
  | s :: r => by rw [pinB, dB, dB, dS_pin nm s, dB_pin nm r]
end
mutual
theorem cS_pin (nm : NM) : ∀ s, cS (pinS nm s) = cS s
  | .read v k => by rw [pinS]; cases nmGet nm k <;> rfl
  | .ite v n a b => by rw [pinS, cS, cS, cB_pin nm a, cB_pin nm b]
  | .same v n a b => by rw [pinS, cS, cS, cB_pin nm a, cB_pin nm b]
  | .rep n a => by rw [pinS, cS, cS, cB_pin nm a]
  | .set _ _ => by rw [pinS]
  | .copy _ _ => by rw [pinS]
  | .print _ => by rw [pinS]
  | .say _ => by rw [pinS]
  | .wait => by rw [pinS]
  | .stop => by rw [pinS]
theorem cB_pin (nm : NM) : ∀ l, cB (pinB nm l) = cB l
  | [] => rfl
  | s :: r => by rw [pinB, cB, cB, cS_pin nm s, cB_pin nm r]
end
mutual
theorem kS_pin (nm : NM) (ks : List Str) : ∀ s, kS ks s = true → kS ks (pinS nm s) = true
  | .read v k, h => by
    rw [pinS]
    cases nmGet nm k with
    | none => exact h
    | some x => rfl
  | .ite v n a b, h => by
    rw [pinS, kS]
    rw [kS, Bool.and_eq_true] at h
    rw [kB_pin nm ks a h.1, kB_pin nm ks b h.2]
    rfl
  | .same v n a b, h => by
    rw [pinS, kS]
    rw [kS, Bool.and_eq_true] at h
    rw [kB_pin nm ks a h.1, kB_pin nm ks b h.2]
    rfl
  | .rep n a, h => by
    rw [pinS, kS]
    rw [kS] at h
    exact kB_pin nm ks a h
  | .set _ _, h => by rw [pinS]; exact h
  | .copy _ _, h => by rw [pinS]; exact h
  | .print _, h => by rw [pinS]; exact h
  | .say _, h => by rw [pinS]; exact h
  | .wait, h => by rw [pinS]; exact h
  | .stop, h => by rw [pinS]; exact h
theorem kB_pin (nm : NM) (ks : List Str) : ∀ l, kB ks l = true → kB ks (pinB nm l) = true
  | [], _ => rfl
  | s :: r, h => by
    rw [kB, Bool.and_eq_true] at h
    rw [pinB, kB, kS_pin nm ks s h.1, kB_pin nm ks r h.2]
    rfl
end
theorem reads_shape : ∀ nm : NM, dB (readsNm nm) = 1 ∧ cB (readsNm nm) = nm.length ∧ ((∀ q ∈ nm, isWord q.1 = true ∧ isWord q.2 = true) → wB (readsNm nm) = true) ∧ ∀ ks, (∀ q ∈ nm, q.1 ∈ ks) → kB ks (readsNm nm) = true
  | [] => ⟨rfl, rfl, fun _ => rfl, fun _ _ => rfl⟩
  | q :: r => by
    obtain ⟨h1, h2, h3, h4⟩ := reads_shape r
    refine ⟨?_, ?_, fun h => ?_, fun ks h => ?_⟩
    · show max (0 + 1) (dB (readsNm r)) = 1
      rw [h1]
      rfl
    · show 1 + cB (readsNm r) = r.length + 1
      omega
    · show (isWord q.2 && isWord q.1 && wB (readsNm r)) = true
      rw [(h q List.mem_cons_self).1, (h q List.mem_cons_self).2, h3 fun x hx => h x (List.mem_cons_of_mem _ hx)]
      rfl
    · show (decide (q.1 ∈ ks) && kB ks (readsNm r)) = true
      rw [decide_eq_true (h q List.mem_cons_self), h4 ks fun x hx => h x (List.mem_cons_of_mem _ hx)]
      rfl
/-! ### the variables of a body -/
mutual
def vnS : Stm → List Str
  | .ite v _ a b => v :: (vnB a ++ vnB b)
  | .same v u a b => v :: u :: (vnB a ++ vnB b)
  | .rep _ a => vnB a
  | .read v _ => [v]
  | .set v _ => [v]
  | .copy v u => [v, u]
  | .print v => [v]
  | _ => []
def vnB : List Stm → List Str
  | [] => []
  | s :: r => vnS s ++ vnB r
end
mutual
theorem vnS_names : ∀ (s : Stm) (p : List Int), vnS s = (aS p s).flatMap fun q => q.2.names
  | .ite v n a b, p => by
    rw [vnS, aS, List.flatMap_cons, List.flatMap_append, ← vnB_names a, ← vnB_names b]
    rfl
  | .same v u a b, p => by
    rw [vnS, aS, List.flatMap_cons, List.flatMap_append, ← vnB_names a, ← vnB_names b]
    rfl
  | .rep n a, p => by
    rw [vnS, aS, List.flatMap_cons, ← vnB_names a]
    rfl
  | .read v k, p => rfl
  | .set v n, p => rfl
  | .copy v u, p => rfl
  | .print v, p => rfl
  | .say n, p => rfl
  | .wait, p => rfl
  | .stop, p => rfl
theorem vnB_names : ∀ (l : List Stm) (p : List Int) (i : Nat), vnB l = (aB p i l).flatMap fun q => q.2.names
  | [], p, i => rfl
  | s :: r, p, i => by rw [vnB, aB, List.flatMap_append, ← vnS_names s, ← vnB_names r]
end
/-! ### what is printed if nothing changes is the same -/
/-- s' holds besides what the keys of nm have; the variables in N are alike -/
structure PinR (N : List Str) (nm : NM) (m : WM) (s' s : RS) : Prop where
  now' : s'.now = m
  now : s.now = m
  pr : s'.printed = s.printed
  st : s'.stop = s.stop
  vr : ∀ v ∈ N, vOf s' v = vOf s v
  nm : ∀ q ∈ nm, vOf s' q.2 = (wGet m q.1).getD 0
theorem vOf_hold (s : RS) (v u : Str) (n : Int) : vOf (holdS s v n) u = if v = u then n else vOf s u := by
  unfold vOf holdS
  rw [wGet_put]
  split <;> rfl
section
variable {N : List Str} {nm : NM} {m : WM}
theorem PinR.hold (fr : ∀ q ∈ nm, q.2 ∉ N) {s' s : RS} (h : PinR N nm m s' s) {v : Str} (hv : v ∈ N) (n : Int) : PinR N nm m (holdS s' v n) (holdS s v n) :=
  ⟨h.now', h.now, h.pr, h.st, fun u hu => by rw [vOf_hold, vOf_hold, h.vr u hu], fun q hq => by
    rw [vOf_hold, if_neg fun z => ?_]
    · exact h.nm q hq
    · exact fr q hq (by rw [← z]; exact hv)⟩
theorem rept_pin {f g : RS → RS} (hf : ∀ s' s, PinR N nm m s' s → PinR N nm m (f s') (g s)) : ∀ n s' s, PinR N nm m s' s → PinR N nm m (rept f n s') (rept g n s)
  | 0, _, _, h => h
  | n + 1, s', s, h => hf _ _ (rept_pin hf n s' s h)
mutual
theorem pin_S (fr : ∀ q ∈ nm, q.2 ∉ N) : ∀ (st : Stm) (p' p : List Int) (s' s : RS), (∀ z ∈ vnS st, z ∈ N) → PinR N nm m s' s → PinR N nm m (goS ⟨[], []⟩ p' (pinS nm st) s') (goS ⟨[], []⟩ p st s)
  | .read v k, p', p, s', s, hv, h => by
    have hv' : v ∈ N := hv v (by simp [vnS])
    rw [pinS, goS]
    have see : ∀ a b : RS, PinR N nm m a b → PinR N nm m a (seeS b p k) := fun a b h => ⟨h.now', h.now, h.pr, h.st, h.vr, h.nm⟩
    have en : nOf s k = (wGet m k).getD 0 := by unfold nOf; rw [h.now]
    cases e : nmGet nm k with
    | none =>
      show PinR N nm m (goS ⟨[], []⟩ p' (.read v k) s') _
      rw [goS]
      have en' : nOf s' k = (wGet m k).getD 0 := by unfold nOf; rw [h.now']
      have := h.hold fr hv' (nOf s k)
      show PinR N nm m (seeS (holdS s' v (nOf s' k)) p' k) (seeS (holdS s v (nOf s k)) p k)
      rw [en', ← en]
      exact ⟨this.now', this.now, this.pr, this.st, this.vr, this.nm⟩
    | some x =>
      show PinR N nm m (goS ⟨[], []⟩ p' (.copy v x) s') _
      rw [goS]
      have hx : vOf s' x = (wGet m k).getD 0 := h.nm _ (nmGet_mem e)
      show PinR N nm m (holdS s' v (vOf s' x)) (seeS (holdS s v (nOf s k)) p k)
      rw [hx, ← en]
      exact see _ _ (h.hold fr hv' _)
  | .set v n, p', p, s', s, hv, h => by rw [pinS, goS, goS]; exact h.hold fr (hv v (by simp [vnS])) n
  | .copy v u, p', p, s', s, hv, h => by
    rw [pinS, goS, goS]
    show PinR N nm m (holdS s' v (vOf s' u)) (holdS s v (vOf s u))
    rw [h.vr u (hv u (by simp [vnS]))]
    exact h.hold fr (hv v (by simp [vnS])) _
  | .print v, p', p, s', s, hv, h => by
    have hv' : v ∈ N := hv v (by simp [vnS])
    rw [pinS, goS, goS]
    exact ⟨h.now', h.now, by show s'.printed ++ [vOf s' v] = s.printed ++ [vOf s v]; rw [h.pr, h.vr v hv'], h.st, h.vr, h.nm⟩
  | .say n, p', p, s', s, hv, h => by
    rw [pinS, goS, goS]
    exact ⟨h.now', h.now, by show s'.printed ++ [n] = s.printed ++ [n]; rw [h.pr], h.st, h.vr, h.nm⟩
  | .wait, p', p, s', s, hv, h => by
    rw [pinS, goS, goS]
    exact ⟨h.now', h.now, h.pr, h.st, h.vr, h.nm⟩
  | .stop, p', p, s', s, hv, h => by
    rw [pinS, goS, goS]
    exact ⟨h.now', h.now, h.pr, rfl, h.vr, h.nm⟩
  | .ite v n a b, p', p, s', s, hv, h => by
    rw [vnS] at hv
    rw [pinS, goS, goS]
    show PinR N nm m (if vOf s' v = n then _ else _) (if vOf s v = n then _ else _)
    rw [h.vr v (hv v List.mem_cons_self)]
    split
    · exact pin_B fr a _ _ _ _ _ _ (fun z hz => hv z (by simp [hz])) h
    · exact pin_B fr b _ _ _ _ _ _ (fun z hz => hv z (by simp [hz])) h
  | .same v u a b, p', p, s', s, hv, h => by
    rw [vnS] at hv
    rw [pinS, goS, goS]
    show PinR N nm m (if vOf s' v = vOf s' u then _ else _) (if vOf s v = vOf s u then _ else _)
    rw [h.vr v (hv v List.mem_cons_self), h.vr u (hv u (by simp))]
    split
    · exact pin_B fr a _ _ _ _ _ _ (fun z hz => hv z (by simp [hz])) h
    · exact pin_B fr b _ _ _ _ _ _ (fun z hz => hv z (by simp [hz])) h
  | .rep n a, p', p, s', s, hv, h => by
    rw [vnS] at hv
    rw [pinS, goS, goS]
    exact rept_pin (fun s' s h => pin_B fr a _ _ _ _ s' s hv h) _ _ _ h
theorem pin_B (fr : ∀ q ∈ nm, q.2 ∉ N) : ∀ (l : List Stm) (p' p : List Int) (i' i : Nat) (s' s : RS), (∀ z ∈ vnB l, z ∈ N) → PinR N nm m s' s → PinR N nm m (goB ⟨[], []⟩ p' i' (pinB nm l) s') (goB ⟨[], []⟩ p i l s)
  | [], p', p, i', i, s', s, _, h => by rw [pinB, goB, goB]; exact h
  | st :: r, p', p, i', i, s', s, hv, h => by
    rw [vnB] at hv
    rw [pinB, goB, goB]
    refine pin_B fr r p' p (i' + 1) (i + 1) _ _ (fun z hz => hv z (List.mem_append.mpr (.inr hz))) ?_
    show PinR N nm m (if s'.stop = true then s' else _) (if s.stop = true then s else _)
    rw [h.st]
    split
    · exact h
    · exact pin_S fr st _ _ _ _ (fun z hz => hv z (List.mem_append.mpr (.inl hz))) h
end
end
/-- the reads at the start -/
theorem pin_start {N : List Str} {m : WM} : ∀ (nm nm0 : NM) (i : Nat) (s' s : RS), (∀ q ∈ nm, q.2 ∉ N) → ((nm0 ++ nm).map (·.2)).Nodup → s'.stop = false → PinR N nm0 m s' s → PinR N (nm0 ++ nm) m (goB ⟨[], []⟩ [] i (readsNm nm) s') s
  | [], nm0, i, s', s, _, _, _, h => by
    rw [List.append_nil]
    show PinR N nm0 m (goB ⟨[], []⟩ [] i [] s') s
    rw [goB]
    exact h
  | q :: r, nm0, i, s', s, fr, nd, st, h => by
    show PinR N (nm0 ++ q :: r) m (goB ⟨[], []⟩ [] i (.read q.2 q.1 :: readsNm r) s') s
    rw [goB, show nm0 ++ q :: r = (nm0 ++ [q]) ++ r by rw [List.append_assoc]; rfl]
    show PinR N _ m (goB ⟨[], []⟩ [] (i + 1) (readsNm r) (if s'.stop = true then s' else goS ⟨[], []⟩ ([] ++ [(i : Int)]) (.read q.2 q.1) s')) s
    rw [st, if_neg Bool.false_ne_true, goS]
    have en : nOf s' q.1 = (wGet m q.1).getD 0 := by unfold nOf; rw [h.now']
    refine pin_start r (nm0 ++ [q]) (i + 1) _ s (fun x hx => fr x (List.mem_cons_of_mem _ hx)) (by rw [List.append_assoc]; exact nd) st ⟨h.now', h.now, h.pr, h.st, fun v hv => ?_, fun x hx => ?_⟩
    · show vOf (holdS s' q.2 (nOf s' q.1)) v = vOf s v
      rw [vOf_hold, if_neg fun z => ?_, h.vr v hv]
      exact fr q List.mem_cons_self (by rw [z]; exact hv)
    · show vOf (holdS s' q.2 (nOf s' q.1)) x.2 = _
      rw [vOf_hold]
      rcases List.mem_append.mp hx with z | z
      · rw [if_neg fun e => ?_]
        · exact h.nm x z
        · rw [List.map_append, List.nodup_append] at nd
          exact nd.2.2 x.2 (List.mem_map.mpr ⟨x, z, rfl⟩) q.2 (by simp) e.symm
      · rw [List.mem_singleton.mp z, if_pos rfl, en]
theorem froz_pin {nm : NM} {l : List Stm} {m : WM} (fr : ∀ q ∈ nm, q.2 ∉ namesOf l) (nd : (nm.map (·.2)).Nodup) : froz (pinL nm l) m = froz l m := by
  have fr' : ∀ q ∈ nm, q.2 ∉ vnB l := fun q hq => by rw [vnB_names l [] 0]; exact fr q hq
  unfold froz pinL
  rw [goB_app]
  have h0 : PinR (vnB l) [] m (iniS m) (iniS m) := ⟨rfl, rfl, rfl, rfl, fun _ _ => rfl, fun q hq => by cases hq⟩
  have h1 := pin_start nm [] 0 (iniS m) (iniS m) fr' nd rfl h0
  exact (pin_B fr' l [] [] _ 0 _ _ (fun _ h => h) h1).pr
/-! ### free names -/
def lettersS : List Str := ("abcdefghijklmnopqrstuvwxyz" : Str).cps.toList.map fun c => ⟨#[c]⟩
def freeL (l : List Stm) : List Str := lettersS.filter fun z => decide (z ∉ namesOf l)
mutual
theorem names_vS : ∀ (s : Stm) (p : List Int), vS s = true → ∀ q ∈ aS p s, ∀ z ∈ q.2.names, z ∈ vMenu
  | .ite v n a b, p, h => by
    rw [vS, Bool.and_eq_true, Bool.and_eq_true (vB a)] at h
    intro q hq z hz
    rw [aS] at hq
    rcases List.mem_cons.mp hq with e | hq
    · subst e
      have : z = v := by simpa [Stm.names] using hz
      rw [this]
      exact of_decide_eq_true h.1
    · rcases List.mem_append.mp hq with hq | hq
      · exact names_vB a _ _ h.2.1 q hq z hz
      · exact names_vB b _ _ h.2.2 q hq z hz
  | .same v u a b, p, h => by
    rw [vS, Bool.and_eq_true, Bool.and_eq_true, Bool.and_eq_true (vB a)] at h
    intro q hq z hz
    rw [aS] at hq
    rcases List.mem_cons.mp hq with e | hq
    · subst e
      have : z = v ∨ z = u := by simpa [Stm.names] using hz
      rcases this with e | e <;> rw [e]
      · exact of_decide_eq_true h.1.1
      · exact of_decide_eq_true h.1.2
    · rcases List.mem_append.mp hq with hq | hq
      · exact names_vB a _ _ h.2.1 q hq z hz
      · exact names_vB b _ _ h.2.2 q hq z hz
  | .rep n a, p, h => by
    rw [vS] at h
    intro q hq z hz
    rw [aS] at hq
    rcases List.mem_cons.mp hq with e | hq
    · subst e
      cases hz
    · exact names_vB a _ _ h q hq z hz
  | .read v k, p, h => by
    intro q hq z hz
    replace hq : q ∈ [(p, Stm.read v k)] := hq
    rw [List.mem_singleton.mp hq] at hz
    have : z = v := by simpa [Stm.names] using hz
    rw [this]
    exact of_decide_eq_true h
  | .set v n, p, h => by
    intro q hq z hz
    replace hq : q ∈ [(p, Stm.set v n)] := hq
    rw [List.mem_singleton.mp hq] at hz
    have : z = v := by simpa [Stm.names] using hz
    rw [this]
    exact of_decide_eq_true h
  | .copy v u, p, h => by
    rw [vS, Bool.and_eq_true] at h
    intro q hq z hz
    replace hq : q ∈ [(p, Stm.copy v u)] := hq
    rw [List.mem_singleton.mp hq] at hz
    have : z = v ∨ z = u := by simpa [Stm.names] using hz
    rcases this with e | e <;> rw [e]
    · exact of_decide_eq_true h.1
    · exact of_decide_eq_true h.2
  | .print v, p, h => by
    intro q hq z hz
    replace hq : q ∈ [(p, Stm.print v)] := hq
    rw [List.mem_singleton.mp hq] at hz
    have : z = v := by simpa [Stm.names] using hz
    rw [this]
    exact of_decide_eq_true h
  | .say n, p, h => by
    intro q hq z hz
    replace hq : q ∈ [(p, Stm.say n)] := hq
    rw [List.mem_singleton.mp hq] at hz
    cases hz
  | .wait, p, h => by
    intro q hq z hz
    replace hq : q ∈ [(p, Stm.wait)] := hq
    rw [List.mem_singleton.mp hq] at hz
    cases hz
  | .stop, p, h => by
    intro q hq z hz
    replace hq : q ∈ [(p, Stm.stop)] := hq
    rw [List.mem_singleton.mp hq] at hz
    cases hz
theorem names_vB : ∀ (l : List Stm) (p : List Int) (i : Nat), vB l = true → ∀ q ∈ aB p i l, ∀ z ∈ q.2.names, z ∈ vMenu
  | [], p, i, _ => by
    intro q hq
    rw [aB] at hq
    cases hq
  | s :: r, p, i, h => by
    rw [vB, Bool.and_eq_true] at h
    intro q hq
    rw [aB] at hq
    rcases List.mem_append.mp hq with hq | hq
    · exact names_vS s _ h.1 q hq
    · exact names_vB r _ _ h.2 q hq
end
theorem namesOf_menu {l : List Stm} (h : vB l = true) : ∀ z ∈ namesOf l, z ∈ vMenu := fun z hz => by
  obtain ⟨q, hq, hz⟩ := List.mem_flatMap.mp hz
  exact names_vB l [] 0 h q hq z hz
theorem letters_ok : lettersS.Nodup ∧ (∀ z ∈ lettersS, isWord z = true) ∧ (lettersS.filter fun z => decide (z ∉ vMenu)).length = 22 := by
  refine ⟨?_, ?_, ?_⟩ <;> decide +kernel
theorem free_len {l : List Stm} (h : vB l = true) : 22 ≤ (freeL l).length := by
  have h1 := letters_ok.2.2
  rw [← h1, ← List.countP_eq_length_filter, ← show (freeL l).length = _ from rfl]
  unfold freeL
  rw [← List.countP_eq_length_filter]
  refine List.countP_mono_left fun z _ hz => ?_
  have hz := of_decide_eq_true hz
  exact decide_eq_true fun hn => hz (namesOf_menu h z hn)
theorem free_in {l : List Stm} {z : Str} (h : z ∈ freeL l) : z ∉ namesOf l ∧ isWord z = true := by
  obtain ⟨a, b⟩ := List.mem_filter.mp h
  exact ⟨of_decide_eq_true b, letters_ok.2.1 z a⟩
end RM

set_option Elab.async false
set_option linter.all false
set_option maxRecDepth 100000
set_option maxHeartbeats 2000000
namespace RM
open PySem PySem.Spec PyProof.Rows L2
theorem cutL_pre (xs : List V) (k : Nat) (h : k ≤ xs.length) : cutV xs none (some (k : Int)) = xs.take k := by
  unfold cutV
  rw [HT.sIx_none, HT.sIx_nat, Nat.min_eq_left h]
  show (xs.drop 0).take (k - 0) = _
  rw [List.drop_zero, Nat.sub_zero]
theorem cutL_post (xs : List V) (k : Nat) (h : k ≤ xs.length) : cutV xs (some (k : Int)) none = xs.drop k := by
  unfold cutV
  rw [HT.sIx_nat, HT.sIx_none, Nat.min_eq_left h]
  rw [List.take_of_length_le (by rw [List.length_drop]; omega)]
end RM

set_option Elab.async false
set_option linter.all false
set_option maxRecDepth 100000
set_option maxHeartbeats 2000000
/-! a list comprehension whose element knows the list that is made -/
namespace RM
open PySem PySem.Spec PyProof.Rows L2
theorem lc_optD {α : Type} {J : It} {n : Nat} {G : Hp → Prop} {Y : Nat → Hp → V → Hp → Prop} (wk : Walk J n G Y) {g : TG} {tt : TT} {te : TE} {vs : List Nat} {σ : L2.St} {H1 : Hp} {D : Addr} {Qd : Hp → Prop}
    (R : α → V → Hp → Prop) (o : Nat → Option α) (hD : H1 D = none) (hn : n < sizeLine) (hG : ∀ H, Same H1 H → G H)
    (hR : ∀ a y H H', R a y H → Same H H' → R a y H') (hRD : ∀ a y H l l', R a y H → H D = some (.lst l) → R a y (upd H D (.lst l')))
    (hs : ∀ i x H H' acc0 (N : Hp → Prop), i < n → Same H1 H → H D = some (.lst acc0) → Y i H x H' →
      (∀ y H4 a, o i = some a → Same H H4 → R a y H4 → ∃ acc, H4 D = some (.lst acc) ∧ acc.length < sizeLine ∧ N (upd H4 D (.lst (acc ++ [y])))) → (o i = none → ∀ H3, Same H H3 → N H3) →
      g x (wipe σ vs) H' fun σ2 H2 => wipe σ2 vs = wipe σ vs ∧ tt σ2 H2 fun b H3 => if b = true then addsL D te σ2 H3 N else N H3)
    (hd : ∀ H ys, Same H1 H → H D = some (.lst ys) → Paired (fun y a => R a y H) ys ((List.range n).filterMap o) → Qd H) :
    ∃ W : Nat → Nat → Hp → Prop, (∃ m, W 0 m (upd H1 D (.lst []))) ∧ Turns J g tt (addsL D te) (wipe σ vs) vs W Qd := by
  have len : ∀ i, ((List.range i).filterMap o).length ≤ i := fun i => Nat.le_trans (List.length_filterMap_le ..) (by simp)
  refine lc_it wk (fun i H => i ≤ n ∧ Same H1 H ∧ ∃ acc, H D = some (.lst acc) ∧ Paired (fun y a => R a y H) acc ((List.range i).filterMap o)) ⟨Nat.zero_le _, smNew1 hD _, [], upd_same, .nil⟩ (fun i H _ h => hG H h.2.1) ?_ ?_
  · rintro i x H H' hi ⟨_, s1, acc, hacc, p⟩ y
    refine hs i x H H' acc _ hi s1 hacc y (fun y H4 a ha s4 r => ⟨acc, s4 _ _ hacc, ?_, hi, ?_, acc ++ [y], upd_same, ?_⟩) (fun ha H3 s3 => ⟨hi, fun b u q => s3 _ _ (s1 _ _ q), acc, s3 _ _ hacc, ?_⟩)
    · have := p.length
      have := len i
      omega
    · exact fun b u q => by
        rw [upd_ne (ne_of_none q hD)]
        exact s4 _ _ (s1 _ _ q)
    · rw [List.range_succ, List.filterMap_append, List.filterMap_cons, ha]
      have old := paired_mono p fun y' a' r' => hRD _ _ _ _ (acc ++ [y]) (hR _ _ _ _ r' s4) (s4 _ _ hacc)
      exact Paired.snoc old (hRD _ _ _ _ _ r (s4 _ _ hacc))
    · rw [List.range_succ, List.filterMap_append, List.filterMap_cons, ha, List.filterMap_nil, List.append_nil]
      exact paired_mono p fun y' a' r' => hR _ _ _ _ r' s3
  · rintro H ⟨_, s1, acc, hacc, p⟩
    exact hd H acc s1 hacc p
/-- values that are addresses -/
theorem paired_refs {β : Type} {F : Addr → β → Prop} : ∀ {ys : List V} {l : List β}, Paired (fun y b => ∃ a, y = .ref a ∧ F a b) ys l → ∃ as : List Addr, ys = as.map V.ref ∧ Paired F as l
  | _, _, .nil => ⟨[], rfl, .nil⟩
  | _, _, .cons ⟨a, e, h⟩ t => let ⟨as, e2, h2⟩ := paired_refs t; ⟨a :: as, by rw [e, e2]; rfl, .cons h h2⟩
end RM

set_option Elab.async false
set_option linter.all false
set_option maxRecDepth 100000
set_option maxHeartbeats 4000000
set_option pp.maxSteps 600
set_option pp.deepTerms false
/-! free_names -/
namespace RM
open PySem PySem.Spec PyProof.Rows L2
theorem op_in_seq' {X : Cx} {K : PySem.W.Frag} (hK : X.K = K) : OpR X (compareOp .In) (rIn K false) := by subst hK; exact op_in_seq
theorem op_notIn_seq' {X : Cx} {K : PySem.W.Frag} (hK : X.K = K) : OpR X (compareOp .NotIn) (rIn K true) := by subst hK; exact op_notIn_seq
theorem inV_strs (z : Str) (zs : List Str) : inV (.str z) (zs.map V.str) = decide (z ∈ zs) := by
  unfold inV
  rw [List.any_map]
  induction zs with
  | nil => rfl
  | cons y r ih =>
    rw [List.any_cons, ih]
    show ((y == z) || decide (z ∈ r)) = decide (z ∈ y :: r)
    by_cases e : z = y
    · subst e
      rw [beq_self_eq_true, decide_eq_true List.mem_cons_self]
      rfl
    · rw [beq_eq_false_iff_ne.mpr (Ne.symm e), Bool.false_or]
      have : (z ∈ y :: r) ↔ z ∈ r := by rw [List.mem_cons]; exact ⟨fun h => h.resolve_left e, .inr⟩
      simp only [this]
theorem flat_strs (zs : List Str) : (zs.map V.str).all flatV = true := by
  rw [List.all_eq_true]
  intro x hx
  obtain ⟨z, _, rfl⟩ := List.mem_map.mp hx
  rfl
theorem letter_at {i c : Nat} (h : ("abcdefghijklmnopqrstuvwxyz" : Str).cps[i]? = some c) : lettersS[i]? = some ⟨#[c]⟩ := by
  unfold lettersS
  rw [List.getElem?_map, Array.getElem?_toList, h]
  rfl
theorem letters_len : ("abcdefghijklmnopqrstuvwxyz" : Str).cps.size = 26 ∧ lettersS.length = 26 := by
  constructor <;> decide +kernel
section
variable {P : Program} {w : World} {K : PySem.W.Frag} {mg : Str → Option Value} {base : Heap}
def spFree (K : PySem.W.Frag) : Sp := fun vs H Q _ => match vs with
  | [x, y] => ∃ a l, ∃ many : Nat, x = .ref a ∧ y = .int many ∧ PrgAt K H a l ∧ dB l ≤ 4 ∧ cB l ≤ 100 ∧ vB l = true ∧ many ≤ 20 ∧
    ∀ p H', Same H H' → H p = none → H' p = some (.lst (((freeL l).take many).map V.str)) → Q (.ref p) H'
  | _ => False
theorem sc_free_names : FnScope ["program", "many", "taken", "found", "first", "letter", "second"] ["program", "many"] (defScope s_free_names) := ⟨rfl, rfl, rfl, by decide +kernel, rfl, by decide +kernel, by decide +kernel⟩
theorem c_free_names (T : Top w K mg) : Cal P w K mg base CX0 7 "free_names" (spFree K) := by
  refine cal_0 (f_free_names T) (g_free_names T) sc_free_names (fun _ _ _ _ _ _ us hl => match us, hl with | [_, _], _ => rfl) (fun vs H Q E h => match vs, h with | [_, _], _ => rfl) (fun cdv A outer s H vs Q E hr h => ?_)
  match vs, h with
  | [x, y], h =>
  obtain ⟨a, l, many, rfl, rfl, pa, dl, cl, vl, hm, q⟩ := h
  obtain ⟨dx, v, ha, hv⟩ := id pa
  have l26 := letters_len
  refine ⟨_, (pss_cons (ps_set (i := 2) sc_free_names.nd rfl (Or.inr rfl) (pmt0 (c_Program_variables T) hr (pv 0)))
    (pss_cons (ps_setLc (i := 3) (own := [("letter", 5)]) rfl sc_free_names.nd rfl rfl (sw_true rfl rfl rfl (by decide +kernel)) (pi_str (pglS (i_LETTERS T))) (blkOk_by (own := [("letter", 5)]) (N := ["program", "many", "taken", "found", "first", "letter", "second"]) (sc := defScope s_free_names) (by decide +kernel)) (fun _ _ _ _ _ => (pg_name (i := 5) sc_free_names.nd rfl (Or.inl rfl) (Or.inr rfl))) (fun _ _ _ _ _ => (pts_one (pt_cmpR (op_notIn_seq' (K := K) rfl) (pv 5) (pv 2) rfl))) (fun _ _ _ _ _ => (pv 5)))
    (pss_cons (ps_for PassesOwn.never rfl (pi_str (pglS (i_LETTERS T))) (pg_name (i := 4) sc_free_names.nd rfl (Or.inr rfl))
      (pss_one (ps_if (pt_cmpR op_lt (pcb (z_len T) call_len_seq boot_len (pa_cons (pv 3) pa_nil)) (pv 1) (nomark _))
      (pss_one (ps_set (i := 3) sc_free_names.nd rfl (Or.inl rfl) (pe_op op_cat (pv 3) (pe_lc (own := [("second", 6)]) rfl sc_free_names.nd (pi_str (pglS (i_LETTERS T))) (blkOk_by (own := [("second", 6)]) (N := ["program", "many", "taken", "found", "first", "letter", "second"]) (sc := defScope s_free_names) (by decide +kernel)) (fun _ _ _ _ _ => (pg_name (i := 6) sc_free_names.nd rfl (Or.inl rfl) (Or.inr rfl))) (fun _ _ _ _ _ => (pts_one (pt_cmpR (op_notIn_seq' (K := K) rfl) (pe_op op_add_str (pv 4) (pv 6)) (pv 2) rfl))) (fun _ _ _ _ _ => (pe_op op_add_str (pv 4) (pv 6)))))))
      pss_nil)))
    (pss_one (ps_ret (pe_slice sl_list (pv 3) po_none (po_some (pv 1)))))))), ?_⟩
  refine ⟨_, rfl, a, dx, _, rfl, ha, rfl, a, l, rfl, pa, dl, by omega, fun ks t H1 e1 ht hks => ?_⟩
  have mem : ∀ z : Str, inV (.str z) (ks.map V.str) = decide (z ∈ namesOf l) := fun z => by
    rw [inV_strs]
    have := hks.2.2 z
    simp only [this]
  refine ⟨_, rfl, fun D nD => ?_⟩
  refine lc_opt walk_str (fun (z : Str) y _ => y = .str z) (fun i => (lettersS[i]?).bind fun z => if z ∈ namesOf l then none else some z) nD (small1000 (by rw [l26.1]; omega)) (fun _ _ => trivial) (fun _ _ _ _ h _ => h) (fun _ _ _ _ _ h _ => h) ?_ ?_
  · rintro i x H2 H3 N hi e ⟨rfl, c, hc, rfl⟩ hk hno
    have hz := letter_at hc
    refine ⟨rfl, _, rfl, _, rfl, t, _, rfl, .inr (SqT.of (e _ _ ht)), rfl, flat_strs ks, _, rfl, ?_⟩
    show if (!inV (V.str ⟨#[c]⟩) (ks.map V.str)) = true then _ else _
    rw [mem]
    by_cases hn : (⟨#[c]⟩ : Str) ∈ namesOf l
    · refine ifF (by rw [decide_eq_true hn]; rfl) ?_
      exact hno (by rw [hz]; exact if_pos hn) _ (Same.refl _)
    · refine ifT (by rw [decide_eq_false hn]; rfl) ?_
      exact ⟨_, rfl, hk _ _ _ (by rw [hz]; exact if_neg hn) (Same.refl _) rfl⟩
  intro H2 ys e hD hp'
  have eq1 : (List.range ("abcdefghijklmnopqrstuvwxyz" : Str).cps.size).filterMap (fun i => (lettersS[i]?).bind fun z => if z ∈ namesOf l then none else some z) = freeL l := by
    rw [l26.1, ← l26.2, filterMap_at2]
    unfold freeL
    generalize lettersS = L
    induction L with
    | nil => rfl
    | cons k r ih =>
      rw [List.filterMap_cons, List.filter_cons]
      by_cases hm : k ∈ namesOf l
      · rw [if_pos hm, if_neg (by simpa using hm), ih]
      · rw [if_neg hm, if_pos (by simpa using hm), ih]
  rw [eq1] at hp'
  have hys := paired_eq hp'
  subst hys
  have fl := free_len vl
  have s2 := e1.trans e
  refine ⟨_, rfl, for_it walk_str (fun i σ H' => H' = H2 ∧ ∃ v, σ = [some (.ref a), some (.int many), some (.ref t), some (.ref D), v, none, none]) ⟨rfl, _, rfl⟩ (fun _ _ _ _ _ => trivial) ?_ ?_⟩
  · rintro i x σ H3 H4 hi ⟨rfl, v, rfl⟩ ⟨rfl, c, hc, rfl⟩
    refine ⟨_, rfl, D, _, rfl, .inl (SqL.of hD), _, rfl, _, _, rfl, rfl, _, rfl, ?_⟩
    exact ifF (decide_eq_false (by rw [List.length_map]; omega)) ⟨rfl, _, rfl⟩
  rintro σ H3 ⟨rfl, v, rfl⟩
  refine ⟨_, rfl, _, rfl, (many : Int), rfl, D, _, rfl, SqL.of hD, fun p hp => ?_⟩
  rw [cutL_pre _ _ (by rw [List.length_map]; omega)]
  refine q p _ (smNew s2 hp _) (s2.free hp) ?_
  rw [upd_same, List.map_take]
end
end RM

set_option Elab.async false
set_option linter.all false
set_option maxRecDepth 100000
set_option maxHeartbeats 2000000
/-! xs.remove(a text); xs.extend(any list that is read) -/
namespace RM
open PySem PySem.Spec PyProof.Rows L2
def eqTx (k : Str) (v : Value) : Bool := match v with
  | .str n _ => n.cps.toList == k.cps.toList
  | _ => false
theorem eqTx_gives {k : Str} {t : Tok} {us : List Value} {zs : List Str} (h : StrsAre us zs) (y : Value) (hy : y ∈ us) : MeetsSeq.EqGives y (.str k t) (eqTx k y) := by
  induction h with
  | nil => cases hy
  | cons n t' _ ih =>
    cases hy with
    | head => exact SeqRoads2.EqGives.str n k t' t
    | tail _ hy => exact ih hy
theorem tx_eq {a b : Str} : (a.cps.toList == b.cps.toList) = decide (a = b) := by
  by_cases e : a = b
  · rw [e, decide_eq_true rfl]
    exact beq_self_eq_true _
  · rw [decide_eq_false e]
    refine beq_eq_false_iff_ne.mpr fun z => e ?_
    cases a
    cases b
    exact congrArg Str.mk (Array.toList_inj.mp z)
theorem map_erase_tx (zs : List Str) (j : Nat) : (zs.map V.str).eraseIdx j = (zs.eraseIdx j).map V.str := by
  induction zs generalizing j with
  | nil => rfl
  | cons z r ih =>
    cases j with
    | zero => rfl
    | succ j => exact congrArg _ (ih j)
def rRemT : V → List V → Hp → VK → Prop := fun x vs H Q => ∃ (l : Addr) (zs : List Str) (k : Str), x = .ref l ∧ vs = [.str k] ∧ H l = some (.lst (zs.map V.str)) ∧ k ∈ zs ∧ Q .non (upd H l (.lst ((zs.erase k).map V.str)))
def rExtA (K : PySem.W.Frag) : V → List V → Hp → VK → Prop := fun x vs H Q => ∃ (l b : Addr) (xs zs : List V), x = .ref l ∧ vs = [.ref b] ∧ H l = some (.lst xs) ∧ SqL K H b zs ∧ xs.length + zs.length ≤ sizeLine ∧ Q .non (upd H l (.lst (xs ++ zs)))
-- l.extend(b), whatever slots b has

theorem extend_any (l b : Addr) (xs ys : Array Value) (n m : Nat) (sl : Array (Option Value)) (door : ¬(!xs.isEmpty && Builtin.List.listTooLong (xs.size + ys.size)) = true) (fit : xs.size ≤ sizeLine) (both : xs.size + ys.size ≤ sizeLine + 1) :
    Meets (Builtin.«list.extend» ⟨[.ref l, .ref b], []⟩) (fun _ R s => s.heap.get? l = some { cls := .type "list", dict := none, data := .seq xs n, slots := #[] } ∧ s.heap.get? b = some { cls := .type "list", dict := none, data := .seq ys m, slots := sl } ∧
      R (.ok (.ret Value.none)) { s with heap := s.heap.update l (Obj.mapSeq fun x => x ++ ys), toks := s.toks }) := by
  refine .of_wp fun prog w A R s h => ?_
  obtain ⟨hp, g, d, tk, os⟩ := s
  obtain ⟨hl, hb, h⟩ := h
  have f1 := AutoSeq1.idx_int
  have f2 := AutoSeq1.sub_tuple_tuple
  have f3 := AutoSeq1.sub_list_list
  have f4 := AutoSeq1.sub_tuple_list
  have f5 := AutoSeq1.sub_list_tuple
  have both' : (xs ++ ys).size ≤ sizeLine + 1 := (Array.size_append ..).symm ▸ both
  wp_walk using (wpAny_updateSeq hl rfl (hz := fit) (_hz' := both')), AutoSeq1.wpAny_loadPart' hl, AutoSeq1.wpAny_loadPart' hb
  exact ⟨_, rfl, h⟩
section
variable {X : Cx}
theorem mt_removeT : MtM X "list.remove" rRemT := by
  rintro pins s σ H _ _ v us Q I rx rxs ⟨l, zs, k, rfl, rfl, hH, hk, q⟩
  cases rx
  obtain ⟨u, rfl, ru⟩ := rxs.one
  obtain ⟨t, rfl⟩ := ru
  obtain ⟨big, its, n, r, hl, e⟩ := I.lstM hH
  have hi := r.strs
  rw [List.length_map] at hl big
  obtain ⟨j, hj, hjk, first⟩ : ∃ (j : Nat) (hj : j < zs.length), zs[j] = k ∧ ∀ m (hm : m < zs.length), m < j → zs[m] ≠ k := by
    have h1 := List.idxOf_lt_length_iff.mpr hk
    refine ⟨zs.idxOf k, h1, List.getElem_idxOf h1, fun m hm lt => ?_⟩
    have := List.not_of_lt_findIdx (p := (· == k)) lt
    simpa using this
  have ej : zs.erase k = zs.eraseIdx j := by
    clear q e hi r hH big hl
    induction zs generalizing j with
    | nil => cases hk
    | cons z0 r0 ih =>
      cases j with
      | zero =>
        have : z0 = k := hjk
        rw [this, List.erase_cons_head]
        rfl
      | succ j =>
        have n0 : z0 ≠ k := first 0 (Nat.succ_pos _) (Nat.succ_pos _)
        rw [List.erase_cons_tail (by simpa using n0)]
        refine congrArg _ (ih ?_ j (Nat.lt_of_succ_lt_succ hj) hjk fun m hm lt => first (m + 1) (Nat.succ_lt_succ hm) (Nat.succ_lt_succ lt))
        exact (List.mem_cons.mp hk).resolve_left (Ne.symm n0)
  have small : j < its.toArray.size := by
    rw [List.size_toArray]
    omega
  refine call_meets PySem.F.slot_list_remove ⟨_, e, rfl⟩ PySem.F.entry_list_remove (PySem.F.args_list_remove_2 _ _)
    (MeetsSeq.list_remove l its.toArray n (.str k t) (eqTx k) (fun y hy => eqTx_gives hi y (Array.mem_toList_iff.mpr hy)) j small ?_ ?_ (by rw [List.size_toArray]; omega)) ⟨e, ?_⟩
  · obtain ⟨tj, hjt⟩ := hi.get j k (by rw [List.getElem?_eq_getElem hj, hjk])
    have h2 := (List.getElem?_eq_some_iff.mp hjt).2
    rw [show its.toArray[j] = .str k tj from by simpa using h2]
    exact beq_self_eq_true _
  · intro m hm lt
    have hmz : m < zs.length := by omega
    obtain ⟨tm, hmt⟩ := hi.get m _ (List.getElem?_eq_getElem hmz)
    have h2 := (List.getElem?_eq_some_iff.mp hmt).2
    rw [show its.toArray[m] = .str zs[m] tm from by simpa using h2]
    exact tx_eq.trans (decide_eq_false (first m hmz lt))
  · have rr := r.eraseIdx j
    rw [map_erase_tx, ← ej] at rr
    refine ⟨.non, _, I.lset (its' := its.eraseIdx j) (t' := s.toks) hH e ?_ rr ?_, rfl, q⟩
    · exact List.eraseIdxIfInBounds_toArray ..
    · have := List.length_erase_le (a := k) (l := zs)
      rw [List.length_map]
      omega
theorem mt_extA : MtM X "list.extend" (rExtA X.K) := by
  rintro pins s σ H _ _ v us Q I rx rv ⟨l, b, xs, zs, rfl, rfl, hH, hB, room, q⟩
  cases rx
  obtain ⟨u, rfl, ru⟩ := rv.one
  cases ru
  obtain ⟨big, its, n, r, hl, e⟩ := I.lstM hH
  obtain ⟨its2, r2, ⟨⟨c2, d2, t2, sl2⟩, n2, e2, h1, h2, h3⟩, big2⟩ := I.list hB
  have h1 : c2 = .type "list" := h1
  have h2 : d2 = none := h2
  have h3 : t2 = .seq its2.toArray n2 := h3
  subst h1 h2 h3
  have l2 := r2.length
  have both : its.toArray.size + its2.toArray.size ≤ sizeLine := by
    rw [List.size_toArray, List.size_toArray]
    omega
  refine call_meets PySem.F.slot_list_extend ⟨_, e, rfl⟩ PySem.F.entry_list_extend (PySem.F.args_list_extend_2 _ _)
    (extend_any l b its.toArray its2.toArray n n2 sl2 (by rw [notLongL both, Bool.and_false]; exact Bool.false_ne_true) (by rw [List.size_toArray]; omega) (by omega)) ⟨e, e2, ?_⟩
  exact ⟨.non, _, I.lset (its' := its ++ its2) hH e (by simp) (r.append r2) (by rw [List.length_append]; exact room), rfl, q⟩
end
end RM

set_option Elab.async false
set_option linter.all false
set_option maxRecDepth 100000
set_option maxHeartbeats 2000000
/-! own rules of texts: spaces, str of either, replace behind a number, zip(list, text) -/
namespace RM
open PySem PySem.Spec PyProof.Rows L2
/-! ### n spaces -/
def spc (n : Nat) : Str := ⟨(List.replicate n 32).toArray⟩
theorem spc_list (n : Nat) : (spc n).cps.toList = List.replicate n 32 := rfl
theorem spc_len (n : Nat) : (spc n).length = n := by
  show (List.replicate n 32).toArray.size = n
  simp
theorem blank_list : (" " : Str).cps.toList = [32] := by decide +kernel
theorem fold_blank : ∀ (n : Nat) (acc : Array Nat), ((List.replicate n (" " : Str).cps).foldl (· ++ ·) acc).toList = acc.toList ++ List.replicate n 32
  | 0, acc => by simp
  | n + 1, acc => by
    rw [List.replicate_succ, List.foldl_cons, fold_blank n, Array.toList_append, blank_list, List.replicate_succ, List.append_assoc]
    rfl
theorem str_ext {a b : Str} (h : a.cps.toList = b.cps.toList) : a = b := by
  obtain ⟨⟨x⟩⟩ := a
  obtain ⟨⟨y⟩⟩ := b
  have e : x = y := h
  rw [e]
/-- ' ' * n -/
def rSpc : R2 := fun x y H Q => ∃ n : Nat, x = .str " " ∧ y = .int n ∧ n ≤ 1000 ∧ Q (.str (spc n)) H
theorem op_spc {X : Cx} : OpR X (binaryOp .Mult) rSpc := by
  rintro pins s σ H x y v u Q I rx ry ⟨n, rfl, rfl, hn, q⟩
  obtain ⟨t, rfl⟩ := rx
  obtain ⟨t', rfl⟩ := ry
  have one : (" " : Str).length = 1 := by decide +kernel
  have low : (decide ((n : Int) < -(2 ^ 63 : Int)) || decide ((n : Int) ≥ 2 ^ 63)) = false := by
    rw [decide_eq_false (by omega), decide_eq_false (by omega)]
    rfl
  refine PySem.P.mul_str low (fun _ _ => ?_) (fun _ _ => ?_) ?_
  · rw [one]
    intro h
    have p : (0 : Int) < n := by omega
    have := (Int.ediv_lt_iff_lt_mul p).mp (show (2 ^ 63 - 1) / (n : Int) < 1 from by omega)
    omega
  · rw [one, Nat.one_mul, Int.toNat_natCast]
    exact decide_eq_false (by have := small1000 hn; omega)
  · by_cases h0 : (n : Int) < 1
    · rw [if_pos h0]
      have e : n = 0 := by omega
      subst e
      exact ⟨by decide, .str (spc 0), H, I.tok _, ⟨_, rfl⟩, q⟩
    · rw [if_neg h0]
      by_cases h1 : ((n : Int) == 1 || (" " : Str).length == 0) = true
      · rw [if_pos h1]
        have e : n = 1 := by
          rw [one] at h1
          simp at h1
          omega
        subst e
        have q1 : spc 1 = " " := str_ext (by rw [blank_list]; rfl)
        rw [q1] at q
        exact ⟨.str " ", H, I, ⟨_, rfl⟩, q⟩
      · rw [if_neg h1]
        have e : (⟨(List.replicate (n : Int).toNat (" " : Str).cps).foldl (· ++ ·) #[]⟩ : Str) = spc n := str_ext (by
          show ((List.replicate (n : Int).toNat (" " : Str).cps).foldl (· ++ ·) #[]).toList = _
          rw [fold_blank, Int.toNat_natCast]
          rfl)
        rw [e]
        exact ⟨by rw [spc_len]; exact Nat.le_of_lt (small1000 hn), .str (spc n), H, I.tok _, ⟨_, rfl⟩, q⟩
/-! ### str(x), a text or a number -/
def rStr : List V → Hp → VK → Prop := fun xs H Q => (∃ a, xs = [.str a] ∧ Q (.str a) H) ∨ ∃ i : Int, xs = [.int i] ∧ i.natAbs.log2 < 1920 ∧ Q (.str (toString i)) H
theorem cr_str {X : Cx} : CallR X (.type "str") rStr := by
  intro pins s σ H xs us Q I r h
  rcases h with h | h
  · exact SkE.call_str_str pins s σ H xs us Q I r h
  · exact call_str_int pins s σ H xs us Q I r h
/-! ### text.replace(written, written), a number read ahead of it -/
section
variable {X : Cx} {a b o : Expr} {ta tb to : TE} {pos : Pos}
/-- behind e a token has been given out -/
def PEK (X : Cx) (e : Expr) (te : TE) : Prop := ∀ pins s σ H Q, Inv X pins σ H s → te σ H Q → wpAny (model X.prog X.w) X.A (eval e X.env) (fun u s' => 1 ≤ s'.toks ∧ EP X pins σ Q u s') X.xe s
theorem pek_int {i : Int} {j : Nat} : PEK X (.Constant (.int i) j pos) (tC (.int i)) := fun _ s _ H _ I h => wpAny_Constant_int ⟨Nat.le_add_left 1 s.toks, .int i, H, I.tok _, ⟨_, rfl⟩, h⟩
theorem pek_ix {r : R2} (hr : IxR X r) (ha : PE X a ta) (hb : PEK X b tb) (hs : PlainIx b) : PEK X (.Subscript a b pos) (tOp r ta tb) := by
  intro pins s σ H Q I h
  refine Subscript_ (thn (ha.run pins s σ H _ I h) fun v s1 z => ?_)
  obtain ⟨x, H1, I1, r1, q1⟩ := z
  refine thn (hb pins s1 σ H1 _ I1 q1) fun u s2 z => ?_
  obtain ⟨k, y, H2, I2, r2, q2⟩ := z
  exact wpAny_mono (PySem.wpAny_toks_of k (hr a b pins s2 σ H2 x y v u Q I2 r1 r2 q2 (hs _ _))) (fun _ _ z => z) fun _ _ z => z.2
def tRepl (to : TE) (y z : Str) : TE := fun σ H Q => to σ H fun v H1 => ∃ x, v = .str x ∧ x.length + (x.length + 1) * z.length ≤ 16777216 ∧ Q (.str (Txt.replace x y z)) H1
theorem pe_repl {y z : Str} {j k : Nat} {c0 c1 apos : Pos} (ho : PEK X o to) (ne : (y == z) = false := by decide)
    (two : starEach [.Constant (.str y) j c0, .Constant (.str z) k c1] X.env = [(false, eval (.Constant (.str y) j c0) X.env), (false, eval (.Constant (.str z) k c1) X.env)] := by rfl)
    (plain : attributeBase o "replace" X.env (eval o X.env) = eval o X.env := by rfl) (line : (apos.endLine == pos.line) = true := by rfl) :
    PE X (.Call (.Attribute o "replace" apos) [.Constant (.str y) j c0, .Constant (.str z) k c1] [] pos) (tRepl to y z) := by
  constructor
  intro pins s σ H Q I h
  refine PySem.Call_method2 plain two line (thn (ho pins s σ H _ I h) fun v s1 got => ?_)
  obtain ⟨k1, _, H1, I1, r1, x, rfl, few, q⟩ := got
  obtain ⟨tx, rfl⟩ := r1
  refine ⟨"str", "str.replace", PySem.F.plainAttrs_str, PySem.F.slot_str_replace, PySem.F.type_str_replace, typeIs_str _ _ _, nofun, ?_⟩
  refine Calls.callWith_builtin rfl (Calls.evalArgs_plain (Calls.spliced_cons (Calls.Constant_str (Calls.spliced_cons (Calls.Constant_str (Calls.spliced_nil ?_))))))
  refine PySem.SC.replace ?_ ?_ ?_ ne few fun t' n => ⟨.str (Txt.replace x y z), H1, I1.tok n, ⟨t', rfl⟩, q⟩
  · exact fun z => by rw [z] at k1; cases k1
  · exact Nat.succ_ne_zero _
  · exact Nat.ne_of_lt (Nat.lt_succ_self _)
end
end RM

set_option Elab.async false
set_option linter.all false
set_option maxRecDepth 100000
set_option maxHeartbeats 2000000
/-! texts of programs: lines, and what is read of a line -/
namespace RM
open PySem PySem.Spec PyProof.Rows L2
abbrev cl (z : Str) : List Nat := z.cps.toList
theorem cl_app (a b : Str) : cl (a ++ b) = cl a ++ cl b := TL.tl_append a b
theorem cl_len (z : Str) : (cl z).length = z.length := by show z.cps.toList.length = z.cps.size; simp
/-! ### numbers as texts -/
def numT (n : Int) : Str := toString n
def isDig (c : Nat) : Bool := decide (c ∈ cl "0123456789")
/-- the figures of a word: without a sign -/
def figs (z : Str) : List Nat := if (cl z).take 1 = [45] then (cl z).drop 1 else cl z
def numOf (z : Str) : Option Int :=
  if (figs z).length = 0 ∨ 2 < (figs z).length ∨ ((figs z)[0]? = some 48 ∧ cl z ≠ [48]) ∨ (figs z).all isDig = false then none else PySem.intText? z
def valsL : List Int := (List.range 199).map fun (k : Nat) => (k : Int) - 99
theorem vals_mem {n : Int} (h : isValue n = true) : n ∈ valsL := by
  unfold isValue at h
  rw [Bool.and_eq_true, decide_eq_true_eq, decide_eq_true_eq] at h
  exact List.mem_map.mpr ⟨(n + 99).toNat, List.mem_range.mpr (by omega), by show (((n + 99).toNat : Nat) : Int) - 99 = n; omega⟩
def numChk (n : Int) : Bool := decide (numOf (numT n) = some n) && (decide ((cl (numT n)).length ≤ 3) && (decide (1 ≤ (cl (numT n)).length) && (cl (numT n)).all fun c => decide (c ≠ 32) && (decide (c ≠ 10) && decide (c < 128))))
theorem num_all : valsL.all numChk = true := by decide +kernel
theorem num_chk {n : Int} (h : isValue n = true) : numChk n = true := List.all_eq_true.mp num_all n (vals_mem h)
theorem num_back {n : Int} (h : isValue n = true) : numOf (numT n) = some n := by
  have := num_chk h
  unfold numChk at this
  rw [Bool.and_eq_true] at this
  exact of_decide_eq_true this.1
/-- one or two figures, with or without a sign: a value -/
def figChk (l : List Nat) : Bool := match PySem.intText? ⟨l.toArray⟩, PySem.intText? ⟨(45 :: l).toArray⟩ with
  | some a, some b => isValue a && isValue b
  | _, _ => false
def figL : List (List Nat) := ((List.range 10).map fun a => [48 + a]) ++ (List.range 10).flatMap fun a => (List.range 10).map fun b => [48 + a, 48 + b]
theorem fig_all : figL.all figChk = true := by decide +kernel
theorem dig_lt {c : Nat} (h : isDig c = true) : ∃ a, a < 10 ∧ c = 48 + a := by
  have e : ∀ c ∈ cl "0123456789", c - 48 < 10 ∧ c = 48 + (c - 48) := by decide +kernel
  exact ⟨c - 48, e c (of_decide_eq_true h)⟩
theorem fig_mem {l : List Nat} (h0 : l.length ≠ 0) (h2 : ¬ 2 < l.length) (h : l.all isDig = true) : l ∈ figL := by
  match l, h0, h2, h with
  | [c], _, _, h =>
    simp only [List.all_cons, List.all_nil, Bool.and_true] at h
    obtain ⟨a, ha, rfl⟩ := dig_lt h
    exact List.mem_append.mpr (.inl (List.mem_map.mpr ⟨a, List.mem_range.mpr ha, rfl⟩))
  | [c, d], _, _, h =>
    simp only [List.all_cons, List.all_nil, Bool.and_true, Bool.and_eq_true] at h
    obtain ⟨a, ha, rfl⟩ := dig_lt h.1
    obtain ⟨b, hb, rfl⟩ := dig_lt h.2
    exact List.mem_append.mpr (.inr (List.mem_flatMap.mpr ⟨a, List.mem_range.mpr ha, List.mem_map.mpr ⟨b, List.mem_range.mpr hb, rfl⟩⟩))
  | [], h0, _, _ => exact absurd rfl h0
  | _ :: _ :: _ :: _, _, h2, _ => exact absurd (by simp) h2
theorem fig_int {z : Str} (h0 : (figs z).length ≠ 0) (h2 : ¬ 2 < (figs z).length) (h : (figs z).all isDig = true) : ∃ n, PySem.intText? z = some n ∧ isValue n = true := by
  have c := List.all_eq_true.mp fig_all _ (fig_mem h0 h2 h)
  unfold figChk at c
  have e : z = ⟨(figs z).toArray⟩ ∨ z = ⟨(45 :: figs z).toArray⟩ := by
    unfold figs
    split
    · rename_i e
      refine .inr (str_ext ?_)
      show cl z = 45 :: (cl z).drop 1
      have := List.take_append_drop 1 (cl z)
      rw [e] at this
      exact this.symm
    · exact .inl (str_ext rfl)
  split at c
  · rename_i a b ea eb
    rw [Bool.and_eq_true] at c
    rcases e with e | e
    · rw [e]; exact ⟨a, ea, c.1⟩
    · rw [e]; exact ⟨b, eb, c.2⟩
  · cases c
theorem numOf_val {z : Str} {n : Int} (h : numOf z = some n) : isValue n = true := by
  unfold numOf at h
  split at h
  · cases h
  · rename_i c
    simp only [not_or, Bool.not_eq_false] at c
    obtain ⟨m, e, v⟩ := fig_int c.1 c.2.1 c.2.2.2
    rw [e] at h
    cases h
    exact v
/-! ### words of a line -/
def tokD : PyData → Str
  | .str z => z
  | .int n => numT n
  | _ => ""
def Stm.toks (s : Stm) : List Str := s.word :: s.flats.map tokD
/-- no blank, no line feed, not empty, not long -/
def tokOk (z : Str) : Bool := decide (1 ≤ (cl z).length) && (decide ((cl z).length ≤ 6) && (cl z).all fun c => decide (c ≠ 32) && (decide (c ≠ 10) && decide (c < 128)))
theorem tok_word {z : Str} (h : isWord z = true) : tokOk z = true := by
  unfold isWord at h
  rw [Bool.and_eq_true, Bool.and_eq_true] at h
  unfold tokOk
  rw [cl_len, h.1.1, h.1.2]
  show (cl z).all _ = true
  refine List.all_eq_true.mpr fun c hc => ?_
  have a : ∀ c ∈ cl "abcdefghijklmnopqrstuvwxyz", (decide (c ≠ 32) && (decide (c ≠ 10) && decide (c < 128))) = true := by decide +kernel
  exact a c (of_decide_eq_true (List.all_eq_true.mp h.2 c hc))
theorem tok_num {n : Int} (h : isValue n = true) : tokOk (numT n) = true := by
  have c := num_chk h
  unfold numChk at c
  simp only [Bool.and_eq_true, decide_eq_true_eq] at c
  unfold tokOk
  simp only [Bool.and_eq_true, decide_eq_true_eq]
  obtain ⟨_, c2, c3, c4⟩ := c
  exact ⟨c3, by omega, c4⟩
theorem words_ok : ∀ z ∈ (["read", "set", "copy", "print", "say", "wait", "if", "same", "repeat", "stop"] : List Str), tokOk z = true ∧ z ≠ "else" := by decide +kernel
theorem word_mem (s : Stm) : s.word ∈ (["read", "set", "copy", "print", "say", "wait", "if", "same", "repeat", "stop"] : List Str) := by cases s <;> simp [Stm.word]
theorem toks_ok {s : Stm} (h : wl s = true) : ∀ z ∈ s.toks, tokOk z = true := by
  intro z hz
  rcases List.mem_cons.mp hz with e | hz
  · rw [e]; exact (words_ok _ (word_mem s)).1
  · obtain ⟨d, hd, e⟩ := List.mem_map.mp hz
    subst e
    have t : ∀ n : Int, 0 ≤ n → n ≤ 3 → isValue n = true := fun n a b => isValue_rep (by rw [decide_eq_true a, decide_eq_true b]; rfl)
    cases s <;> simp only [Stm.flats, List.mem_cons, List.not_mem_nil, or_false] at hd <;> simp only [wl, Bool.and_eq_true, decide_eq_true_eq] at h
    all_goals first
      | exact hd.elim
      | (rcases hd with rfl | rfl
         · exact tok_word h.1
         · first | exact tok_word h.2 | exact tok_num h.2)
      | (subst hd; first | exact tok_word h | exact tok_num h | exact tok_num (t _ h.1 h.2))
theorem toks_len (s : Stm) : s.toks.length ≤ 3 := by cases s <;> simp [Stm.toks, Stm.flats]
/-! ### lines -/
def line (i : Nat) (toks : List Str) : Str := spc i ++ Txt.join " " toks
def elseL (i : Nat) : Str := spc i ++ "else"
mutual
def lnS (i : Nat) : Stm → List Str
  | .ite v n a b => line i (Stm.ite v n a b).toks :: (lnB (i + 2) a ++ elseL i :: lnB (i + 2) b)
  | .same v u a b => line i (Stm.same v u a b).toks :: (lnB (i + 2) a ++ elseL i :: lnB (i + 2) b)
  | .rep n a => line i (Stm.rep n a).toks :: lnB (i + 2) a
  | .read v k => [line i (Stm.read v k).toks]
  | .set v n => [line i (Stm.set v n).toks]
  | .copy v u => [line i (Stm.copy v u).toks]
  | .print v => [line i (Stm.print v).toks]
  | .say n => [line i (Stm.say n).toks]
  | .wait => [line i Stm.wait.toks]
  | .stop => [line i Stm.stop.toks]
def lnB (i : Nat) : List Stm → List Str
  | [] => []
  | s :: r => lnS i s ++ lnB i r
end
/-- the lines behind the statement's own -/
def lnR (i : Nat) : List (List Stm) → List Str
  | [] => []
  | [a] => lnB (i + 2) a
  | a :: b :: _ => lnB (i + 2) a ++ elseL i :: lnB (i + 2) b
theorem lnS_eq (i : Nat) (s : Stm) : lnS i s = line i s.toks :: lnR i s.bodies := by cases s <;> simp [lnS, lnR, Stm.bodies]
theorem lnB_app (i : Nat) : ∀ (l m : List Stm), lnB i (l ++ m) = lnB i l ++ lnB i m
  | [], m => by simp [lnB]
  | s :: r, m => by rw [List.cons_append, lnB, lnB, lnB_app i r m, List.append_assoc]
theorem lnB_take {i : Nat} {l : List Stm} {j : Nat} {s : Stm} (h : l[j]? = some s) : lnB i (l.take (j + 1)) = lnB i (l.take j) ++ lnS i s := by
  rw [take_more h, lnB_app]
  simp [lnB]
theorem join_one (a : Str) : Txt.join " " [a] = a := by rw [TL.join_eq]; rfl
theorem join_cl : ∀ (a : Str) (r : List Str), ∃ m, cl (Txt.join " " (a :: r)) = cl a ++ m
  | a, [] => ⟨[], by rw [join_one, List.append_nil]⟩
  | a, b :: r => by
    refine ⟨[32] ++ TL.joinL [32] ((b :: r).map TL.tl), ?_⟩
    show TL.tl (Txt.join " " (a :: b :: r)) = _
    rw [TL.join_eq, TL.tl_join]
    rw [show TL.tl (" " : Str) = [32] from blank_list]
    rfl
/-- a line's text behind its blanks begins with a letter -/
theorem join_head {a : Str} {r : List Str} (h : tokOk a = true) : ∃ c m, cl (Txt.join " " (a :: r)) = c :: m ∧ c ≠ 32 := by
  obtain ⟨m, e⟩ := join_cl a r
  unfold tokOk at h
  simp only [Bool.and_eq_true, decide_eq_true_eq, List.all_eq_true] at h
  cases hc : cl a with
  | nil => rw [hc] at h; exact absurd h.1 (by simp)
  | cons c r' =>
    rw [hc] at e h
    exact ⟨c, r' ++ m, e, (h.2.2 c List.mem_cons_self).1⟩
theorem split_toks {toks : List Str} (hne : toks ≠ []) (h : ∀ z ∈ toks, tokOk z = true) : Txt.split (Txt.join " " toks) " " = toks := by
  refine TL.split_join (s := 32) (S := []) blank_list (by decide +kernel) hne fun p hp z => ?_
  have t := h p hp
  unfold tokOk at t
  simp only [Bool.and_eq_true, decide_eq_true_eq, List.all_eq_true] at t
  exact (t.2.2 32 z).1 rfl
theorem cl_spc (n : Nat) : cl (spc n) = List.replicate n 32 := rfl
theorem cut_pre (z : Str) (j : Nat) : cl (cutS z none (some (j : Int))) = (cl z).take j := by
  show ((cl z).drop _).take _ = _
  rw [HT.sIx_none, HT.sIx_nat, List.drop_zero, Nat.sub_zero, ← cl_len, ← List.take_eq_take_min]
theorem cut_suf (z : Str) (j : Nat) : cl (cutS z (some (j : Int)) none) = (cl z).drop j := by
  show ((cl z).drop _).take _ = _
  rw [HT.sIx_none, HT.sIx_nat, ← cl_len]
  by_cases h : j ≤ (cl z).length
  · rw [Nat.min_eq_left h, List.take_of_length_le (by rw [List.length_drop]; exact Nat.le_refl _)]
  · rw [Nat.min_eq_right (by omega), Nat.sub_self, List.take_zero, List.drop_of_length_le (by omega)]
theorem cut_front (i : Nat) (t : Str) : cutS (spc i ++ t) none (some (i : Int)) = spc i := by
  refine str_ext ((cut_pre _ _).trans ?_)
  rw [cl_app, List.take_append_of_le_length (by rw [cl_spc]; simp), cl_spc, List.take_replicate, Nat.min_self]
  rfl
theorem cut_back (i : Nat) (t : Str) : cutS (spc i ++ t) (some (i : Int)) none = t := by
  refine str_ext ((cut_suf _ _).trans ?_)
  rw [cl_app, List.drop_append_of_le_length (by rw [cl_spc]; simp), cl_spc, List.drop_replicate, Nat.sub_self]
  rfl
/-- a line of lesser indent does not begin with so many blanks -/
theorem cut_less {i j : Nat} {t : Str} {c : Nat} {m : List Nat} (h : cl t = c :: m) (hc : c ≠ 32) (hj : i < j) : cutS (spc i ++ t) none (some (j : Int)) ≠ spc j := by
  intro e
  have e1 := congrArg cl e
  rw [cut_pre, cl_app, cl_spc, cl_spc, h] at e1
  have e3 := congrArg (fun l => l[i]?) e1
  simp only [List.getElem?_take, if_pos hj, List.getElem?_replicate] at e3
  rw [List.getElem?_append_right (by simp)] at e3
  simp at e3
  exact hc e3
theorem spc_inj {i : Nat} {a b : Str} (h : spc i ++ a = spc i ++ b) : a = b := by
  have e := congrArg cl h
  rw [cl_app, cl_app] at e
  exact str_ext (List.append_cancel_left e)
theorem line_not_else {i : Nat} {s : Stm} (h : wl s = true) : line i s.toks ≠ elseL i := by
  intro e
  have e1 := spc_inj e
  have e2 := split_toks (toks := s.toks) (by simp [Stm.toks]) (toks_ok h)
  have e3 := split_toks (toks := ["else"]) (by simp) (by decide +kernel)
  rw [join_one] at e3
  rw [e1, e3] at e2
  have e4 : ("else" : Str) = s.word := by
    unfold Stm.toks at e2
    injection e2
  exact (words_ok _ (word_mem s)).2 e4.symm
theorem else_cl : ∃ c m, cl "else" = c :: m ∧ c ≠ 32 := ⟨101, [108, 115, 101], by decide +kernel, by decide⟩
/-! ### where a body ends -/
def Stops (i : Nat) (rest : List Str) : Prop := rest = [] ∨ ∃ z r, rest = z :: r ∧ (cutS z none (some (i : Int)) ≠ spc i ∨ z = elseL i)
theorem stops_else (i : Nat) (r : List Str) : Stops (i + 2) (elseL i :: r) := by
  obtain ⟨c, m, h, hc⟩ := else_cl
  exact .inr ⟨_, _, rfl, .inl (cut_less h hc (by omega))⟩
theorem head_line {s : Stm} (h : wl s = true) : ∃ c m, cl (Txt.join " " s.toks) = c :: m ∧ c ≠ 32 := join_head (toks_ok h _ (by simp [Stm.toks]))
theorem stops_body {i : Nat} {l : List Stm} {rest : List Str} (hw : wB l = true) (h : Stops i rest) : Stops (i + 2) (lnB i l ++ rest) := by
  cases l with
  | nil =>
    rw [lnB, List.nil_append]
    rcases h with h | ⟨z, r, rfl, h | h⟩
    · exact .inl h
    · refine .inr ⟨z, r, rfl, .inl fun e => h ?_⟩
      -- so many blanks are fewer blanks too
      have e1 : (cl z).take (i + 2) = List.replicate (i + 2) 32 := by
        have e2 := congrArg cl e
        rwa [cut_pre, cl_spc] at e2
      refine str_ext ((cut_pre _ _).trans ?_)
      have e2 := congrArg (List.take i) e1
      rw [List.take_take, Nat.min_eq_left (by omega), List.take_replicate, Nat.min_eq_left (by omega)] at e2
      exact e2
    · rw [h]
      exact stops_else i r
  | cons s r =>
    rw [lnB, lnS_eq, List.cons_append, List.cons_append]
    have hs : wl s = true := wl_of (wB_all hw s List.mem_cons_self)
    obtain ⟨c, m, h, hc⟩ := head_line hs
    exact .inr ⟨_, _, rfl, .inl (cut_less h hc (by omega))⟩
/-! ### sizes -/
theorem joinL_len (S : List Nat) : ∀ ps : List (List Nat), (TL.joinL S ps).length ≤ (ps.map List.length).sum + ps.length * S.length
  | [] => by simp [TL.joinL]
  | [p] => by simp [TL.joinL]
  | p :: q :: r => by
    have ih := joinL_len S (q :: r)
    show (p ++ (S ++ TL.joinL S (q :: r))).length ≤ _
    rw [List.length_append, List.length_append, List.map_cons, List.sum_cons, List.length_cons, Nat.add_mul]
    omega
theorem toks_sum {s : Stm} (h : wl s = true) : (s.toks.map (·.length)).sum ≤ 18 := by
  have e : ∀ z ∈ s.toks, z.length ≤ 6 := fun z hz => by
    have t := toks_ok h z hz
    unfold tokOk at t
    simp only [Bool.and_eq_true, decide_eq_true_eq, cl_len] at t
    exact t.2.1
  have g : ∀ l : List Str, (∀ z ∈ l, z.length ≤ 6) → (l.map (·.length)).sum ≤ 6 * l.length := by
    intro l
    induction l with
    | nil => intro _; simp
    | cons a r ih =>
      intro hl
      have h1 := hl a List.mem_cons_self
      have h2 := ih fun z hz => hl z (List.mem_cons_of_mem _ hz)
      rw [List.map_cons, List.sum_cons, List.length_cons]
      omega
  have := g _ e
  have := toks_len s
  omega
theorem join_len (parts : List Str) : (Txt.join " " parts).length ≤ (parts.map (·.length)).sum + parts.length := by
  rw [← cl_len, show cl (Txt.join " " parts) = TL.joinL (TL.tl " ") (parts.map TL.tl) from by
    show TL.tl (Txt.join " " parts) = _
    rw [TL.join_eq, TL.tl_join]]
  refine Nat.le_trans (joinL_len _ _) ?_
  rw [show TL.tl (" " : Str) = [32] from blank_list, List.map_map, List.length_map]
  have e : parts.map (List.length ∘ TL.tl) = parts.map (·.length) := List.map_congr_left fun z _ => cl_len z
  rw [e]
  simp
theorem line_len {i : Nat} {s : Stm} (h : wl s = true) : (line i s.toks).length ≤ i + 21 := by
  have h1 := toks_sum h
  have h2 := toks_len s
  have h3 := join_len s.toks
  unfold line
  rw [Str.length_append, spc_len]
  omega
theorem else_len (i : Nat) : (elseL i).length = i + 4 := by
  unfold elseL
  rw [Str.length_append, spc_len]
  have : ("else" : Str).length = 4 := by decide +kernel
  omega
mutual
theorem lnS_cnt (i : Nat) : ∀ s : Stm, (lnS i s).length ≤ 2 * cS s
  | .read .. => by simp [lnS, cS]
  | .set .. => by simp [lnS, cS]
  | .copy .. => by simp [lnS, cS]
  | .print .. => by simp [lnS, cS]
  | .say .. => by simp [lnS, cS]
  | .wait => by simp [lnS, cS]
  | .stop => by simp [lnS, cS]
  | .ite v n a b => by
    have h1 := lnB_cnt (i + 2) a
    have h2 := lnB_cnt (i + 2) b
    simp only [lnS, cS, List.length_cons, List.length_append]
    omega
  | .same v u a b => by
    have h1 := lnB_cnt (i + 2) a
    have h2 := lnB_cnt (i + 2) b
    simp only [lnS, cS, List.length_cons, List.length_append]
    omega
  | .rep n a => by
    have h1 := lnB_cnt (i + 2) a
    simp only [lnS, cS, List.length_cons]
    omega
theorem lnB_cnt (i : Nat) : ∀ l : List Stm, (lnB i l).length ≤ 2 * cB l
  | [] => by simp [lnB]
  | s :: r => by
    have h1 := lnS_cnt i s
    have h2 := lnB_cnt i r
    simp only [lnB, cB, List.length_append]
    omega
end
/-! ### a statement's form without its bodies' signs; its items in two parts -/
def fform (s : Stm) : Str := Txt.replace s.form "b" ""
theorem fform_len (s : Stm) : (fform s).length = s.flats.length := by cases s <;> simp only [fform, Stm.form, Stm.flats, List.length_cons, List.length_nil] <;> decide +kernel
theorem form_small (s : Stm) : s.form.length + (s.form.length + 1) * ("" : Str).length ≤ 16777216 := by cases s <;> simp only [Stm.form] <;> decide +kernel
theorem flats_len (s : Stm) : s.flats.length ≤ 2 := by cases s <;> simp [Stm.flats]
theorem DpAll.app_inv {K : PySem.W.Frag} {H : Hp} : ∀ {ds es : List PyData} {vs : List V}, DpAll K H vs (ds ++ es) → ∃ us ws, vs = us ++ ws ∧ DpAll K H us ds ∧ DpAll K H ws es
  | [], es, vs, h => ⟨[], vs, rfl, .nil, h⟩
  | d :: ds, es, vs, h => by
    obtain ⟨v, r, rfl, h1, h2⟩ := DpAll.cons_inv h
    obtain ⟨us, ws, rfl, h3, h4⟩ := DpAll.app_inv h2
    exact ⟨v :: us, ws, rfl, .cons h1 h3, h4⟩
theorem cut_mid {v : V} {us ws : List V} {k : Nat} (h : us.length = k) : cutV (v :: (us ++ ws)) (some 1) (some ((k : Int) + 1)) = us := by
  subst h
  unfold cutV
  rw [show ((us.length : Int) + 1) = ((us.length + 1 : Nat) : Int) from rfl, HT.sIx_nat, show (1 : Int) = ((1 : Nat) : Int) from rfl, HT.sIx_nat, List.length_cons, List.length_append, Nat.min_eq_left (by omega), Nat.min_eq_left (by omega)]
  show (us ++ ws).take _ = us
  rw [Nat.add_sub_cancel, List.take_append_of_le_length (Nat.le_refl _), List.take_length]
theorem cut_end {v : V} {us ws : List V} {k : Nat} (h : us.length = k) : cutV (v :: (us ++ ws)) (some ((k : Int) + 1)) none = ws := by
  subst h
  unfold cutV
  rw [show ((us.length : Int) + 1) = ((us.length + 1 : Nat) : Int) from rfl, HT.sIx_nat, HT.sIx_none, List.length_cons, List.length_append, Nat.min_eq_left (by omega)]
  show ((us ++ ws).drop us.length).take _ = ws
  rw [List.drop_append_of_le_length (Nat.le_refl _), List.drop_length, List.nil_append, List.take_of_length_le (by omega)]
theorem not_all {v : V} {xs : List V} {k : Nat} {o : Option Int} : ¬ (HT.sIx (v :: xs).length 0 (some ((k : Int) + 1)) = 0 ∧ HT.sIx (v :: xs).length (v :: xs).length o = (v :: xs).length) := by
  rw [show ((k : Int) + 1) = ((k + 1 : Nat) : Int) from rfl, HT.sIx_nat, List.length_cons]
  intro h
  have := h.1
  omega
theorem bodies_cases (s : Stm) : s.bodies = [] ∨ (∃ a, s.bodies = [a]) ∨ ∃ a b, s.bodies = [a, b] := by cases s <;> simp [Stm.bodies]
theorem log_small {i : Int} (h : isValue i = true) : i.natAbs.log2 < 1920 := by
  unfold isValue at h
  rw [Bool.and_eq_true, decide_eq_true_eq, decide_eq_true_eq] at h
  by_cases z : i.natAbs = 0
  · rw [z]; decide
  · exact (Nat.log2_lt z).mpr (Nat.lt_of_le_of_lt (show i.natAbs ≤ 99 by omega) (by decide))
/-- what stands in a statement itself: a word, or a value -/
theorem flat_ok {s : Stm} (h : wl s = true) {d : PyData} (hd : d ∈ s.flats) : (∃ z, d = .str z ∧ isWord z = true) ∨ ∃ n, d = .int n ∧ isValue n = true := by
  have t : ∀ n : Int, 0 ≤ n → n ≤ 3 → isValue n = true := fun n a b => isValue_rep (by rw [decide_eq_true a, decide_eq_true b]; rfl)
  cases s <;> simp only [Stm.flats, List.mem_cons, List.not_mem_nil, or_false] at hd <;> simp only [wl, Bool.and_eq_true, decide_eq_true_eq] at h
  all_goals first
    | exact hd.elim
    | (rcases hd with rfl | rfl
       · exact .inl ⟨_, rfl, h.1⟩
       · first | exact .inl ⟨_, rfl, h.2⟩ | exact .inr ⟨_, rfl, h.2⟩)
    | (subst hd; first | exact .inl ⟨_, rfl, h⟩ | exact .inr ⟨_, rfl, h⟩ | exact .inr ⟨_, rfl, t _ h.1 h.2⟩)
theorem map_at {α β : Type} (l : List α) (f : α → β) : (List.range l.length).filterMap (fun i => (l[i]?).map f) = l.map f := by
  have := congrArg (List.map f) (some_range l)
  rw [List.map_filterMap] at this
  exact this
theorem blank_one : (" " : Str).length = 1 := by decide +kernel
theorem sm_none {H H' : Hp} {p : Addr} (e : Same H H') (h : H' p = none) : H p = none := by
  cases z : H p with
  | none => rfl
  | some o => rw [e p o z] at h; cases h
theorem join_blanks : ∀ n : Nat, Txt.join "" (List.replicate n " ") = spc n := by
  have g : ∀ n : Nat, TL.joinL [] (List.replicate n [32]) = List.replicate n 32 := by
    intro n
    induction n with
    | zero => rfl
    | succ n ih =>
      cases n with
      | zero => rfl
      | succ n =>
        show [32] ++ ([] ++ TL.joinL [] (List.replicate (n + 1) [32])) = _
        rw [ih]
        rfl
  intro n
  refine str_ext ?_
  show TL.tl (Txt.join "" (List.replicate n " ")) = _
  rw [TL.join_eq, TL.tl_join, List.map_replicate, show TL.tl (" " : Str) = [32] from blank_list, show TL.tl ("" : Str) = [] from by decide +kernel, g]
  rfl
theorem blanks_sum (n : Nat) : ((List.replicate n (" " : Str)).map (·.length)).sum = n := by
  rw [List.map_replicate, blank_one, List.sum_replicate_nat]
  omega
/-- the lines of the first bodies -/
theorem lnR_next {i : Nat} {s : Stm} {j : Nat} {b : List Stm} (h : s.bodies[j]? = some b) : lnR i (s.bodies.take (j + 1)) = lnR i (s.bodies.take j) ++ (if j = 1 then [elseL i] else []) ++ lnB (i + 2) b := by
  rcases bodies_cases s with h0 | ⟨a, h0⟩ | ⟨a, c, h0⟩ <;> rw [h0] at h ⊢
  · simp at h
  · match j, h with
    | 0, h => cases h; simp [lnR]
    | j + 1, h => simp at h
  · match j, h with
    | 0, h => cases h; simp [lnR]
    | 1, h => cases h; simp [lnR]
    | j + 2, h => simp at h
end RM

set_option Elab.async false
set_option linter.all false
set_option maxRecDepth 100000
set_option maxHeartbeats 4000000
namespace RM
open PySem PySem.Spec PyProof.Rows L2
theorem drawn_of {r m : Int} (h0 : 0 ≤ r) (h1 : r < m) : ∃ k : Nat, r = k ∧ (k : Int) < m := ⟨r.toNat, by omega, by omega⟩
section
variable {P : Program} {w : World} {K : PySem.W.Frag} {mg : Str → Option Value} {base : Heap}
theorem mk_len (g : WM) : (mK g).length = g.length := List.length_map ..
theorem mk_inj {g g' : WM} (h : mK g = mK g') : g = g' := by
  unfold mK at h
  refine (List.map_inj_right fun x y e => ?_).mp h
  obtain ⟨a, b⟩ := x
  obtain ⟨c, d⟩ := y
  injection e with e1 e2
  injection e1 with e3
  injection e2 with e4
  have e5 : a = c := e3
  have e6 : b = d := e4
  rw [e5, e6]
theorem dk_but {d : Addr} {H H' : Hp} (b : But d H H') (hd : Hd4 H d sc) {c : Addr} {m : List (Key × V)} (h : H c = some (.dK m)) : H' c = some (.dK m) := b.get (fun z => by
  obtain ⟨_, _, _, e, _⟩ := hd
  rw [z, e] at h
  cases h) h
theorem dk_updL {p : Addr} {H : Hp} {xs ys : List V} (hp : H p = some (.lst xs)) {c : Addr} {m : List (Key × V)} (h : H c = some (.dK m)) : (upd H p (.lst ys)) c = some (.dK m) := by
  rw [upd_ne fun z => by rw [z, hp] at h; cases h]
  exact h
theorem sqL_dk {H : Hp} {p a : Addr} {m m' : List (Key × V)} {xs : List V} (hp : H p = some (.dK m)) (h : SqL K H a xs) : SqL K (upd H p (.dK m')) a xs := by
  rcases h with (h | ⟨o, h⟩) | h
  · exact .inl (.inl (by rw [upd_ne fun z => by rw [z, hp] at h; cases h]; exact h))
  · exact .inl (.inr ⟨o, by rw [upd_ne fun z => by rw [z, hp] at h; cases h]; exact h⟩)
  · exact .inr h
theorem DrawAt.dk {H : Hp} {d sc p : Addr} {m m' : List (Key × V)} (h : DrawAt K H d sc) (hp : H p = some (.dK m)) : DrawAt K (upd H p (.dK m')) d sc := by
  obtain ⟨⟨i, j, k, h1, h2⟩, xs, h3⟩ := h
  have ne : p ≠ d := fun z => by rw [z, h1] at hp; cases hp
  refine ⟨⟨i, j, k, by rw [upd_ne (Ne.symm ne)]; exact h1, h2⟩, xs, ?_⟩
  have e : del (upd H p (.dK m')) d = upd (del H d) p (.dK m') := by
    funext b
    by_cases hb : b = d
    · rw [hb, del_same, upd_ne (Ne.symm ne), del_same]
    · by_cases hp' : b = p
      · rw [hp', del_ne ne, upd_same, upd_same]
      · rw [del_ne hb, upd_ne hp', upd_ne hp', del_ne hb]
  rw [e]
  exact sqL_dk (by rw [del_ne ne]; exact hp) h3
/-- the draws, apart from a list at p that changes -/
structure Draw2 (K : PySem.W.Frag) (H : Hp) (d sc p : Addr) : Prop where
  hd : Hd4 H d sc
  sc : Scr K (del (del H d) p) sc
  ne : p ≠ d
theorem del_del (H : Hp) (d p : Addr) : Same (del (del H d) p) (del H d) := del_sm _ _
theorem Draw2.one {H : Hp} {d sc p : Addr} (h : Draw2 K H d sc p) : DrawAt K H d sc := ⟨h.hd, h.sc.keep (del_del H d p)⟩
theorem Draw2.but {H H' : Hp} {d sc p : Addr} (h : Draw2 K H d sc p) (b : But d H H') (dr : DrawAt K H' d sc) : Draw2 K H' d sc p := ⟨dr.1, h.sc.keep (but_sm b), h.ne⟩
theorem Draw2.keep {H H' : Hp} {d sc p : Addr} (h : Draw2 K H d sc p) (e : Same H H') : Draw2 K H' d sc p := h.but (but_sm e) (h.one.keep e)
theorem Draw2.upd {H : Hp} {d sc p : Addr} (h : Draw2 K H d sc p) (o : HO) : Draw2 K (upd H p o) d sc p := by
  obtain ⟨⟨i, j, k, h1, h2⟩, h3, ne⟩ := h
  refine ⟨⟨i, j, k, by rw [upd_ne (Ne.symm ne)]; exact h1, h2⟩, h3.keep fun b u hb => ?_, ne⟩
  by_cases e : b = p
  · rw [e, del_same] at hb; cases hb
  · by_cases e2 : b = d
    · rw [del_ne e, e2, del_same] at hb; cases hb
    · rw [del_ne e, del_ne e2] at hb ⊢
      rw [upd_ne e]
      exact hb
theorem DrawAt.two {H : Hp} {d sc p : Addr} (h : DrawAt K H d sc) (hp : H p = none) (o : HO) : Draw2 K (upd H p o) d sc p := by
  have ne : p ≠ d := fun z => h.1.ne (by rw [← z]; exact hp)
  refine ⟨h.1.keep (smNew1 hp _), h.2.keep fun b u hb => ?_, ne⟩
  have e2 : b ≠ d := fun z => by rw [z, del_same] at hb; cases hb
  rw [del_ne e2] at hb
  have e : b ≠ p := ne_of_none hb hp
  rw [del_ne e, del_ne e2, upd_ne e]
  exact hb
theorem Draw2.dk {H : Hp} {d sc p c : Addr} {m m' : List (Key × V)} (h : Draw2 K H d sc p) (hc : H c = some (.dK m)) (cp : c ≠ p) : Draw2 K (L2.upd H c (.dK m')) d sc p := by
  obtain ⟨⟨i, j, k, h1, h2⟩, ⟨xs, h3⟩, ne⟩ := h
  have cd : c ≠ d := fun z => by rw [z, h1] at hc; cases hc
  refine ⟨⟨i, j, k, by rw [upd_ne (Ne.symm cd)]; exact h1, h2⟩, ⟨xs, ?_⟩, ne⟩
  have e : del (del (L2.upd H c (.dK m')) d) p = L2.upd (del (del H d) p) c (.dK m') := by
    funext b
    by_cases hb : b = p
    · rw [hb, del_same, upd_ne (Ne.symm cp), del_same]
    · by_cases hd : b = d
      · rw [hd, del_ne (Ne.symm ne), del_same, upd_ne (Ne.symm cd), del_ne (Ne.symm ne), del_same]
      · by_cases hc' : b = c
        · rw [hc', del_ne cp, del_ne cd, upd_same, upd_same]
        · rw [del_ne hb, del_ne hd, upd_ne hc', upd_ne hc', del_ne hb, del_ne hd]
  rw [e]
  exact sqL_dk (by rw [del_ne cp, del_ne cd]; exact hc) h3
def MadeOf (K : PySem.W.Frag) (g : WM) (y : V) (H : Hp) : Prop := ∃ c g', y = .ref c ∧ ChgAt K H c g' ∧ g'.Perm g
theorem made_all {H : Hp} : ∀ {ys : List V} {gs : List WM}, Paired (fun y g => MadeOf K g y H) ys gs → ∃ (cv : List Addr) (cs : List WM), ys = cv.map V.ref ∧ Paired (fun c g => ChgAt K H c g) cv cs ∧ Paired (fun g' g => List.Perm g' g) cs gs
  | _, _, .nil => ⟨[], [], rfl, .nil, .nil⟩
  | _, _, .cons h t => by
    obtain ⟨c, g', rfl, h1, h2⟩ := h
    obtain ⟨cv, cs, rfl, h3, h4⟩ := made_all t
    exact ⟨c :: cv, g' :: cs, rfl, .cons h1 h3, .cons h2 h4⟩
theorem paired_and {α β : Type} {F G : α → β → Prop} : ∀ {l : List α} {m : List β}, Paired F l m → (∀ y ∈ m, ∀ x, F x y → G x y) → Paired G l m
  | _, _, .nil, _ => .nil
  | _, _, .cons h t, k => .cons (k _ List.mem_cons_self _ h) (paired_and t fun y hy x hx => k y (List.mem_cons_of_mem _ hy) x hx)
theorem ChgAt.updL {H : Hp} {p : Addr} {a : Addr} {m : WM} {xs ys : List V} (hp : H p = some (.lst xs)) (h : ChgAt K H a m) : ChgAt K (L2.upd H p (.lst ys)) a m := ⟨h.1.updL hp, h.2⟩
end
end RM

set_option Elab.async false
set_option linter.all false
set_option maxRecDepth 100000
set_option maxHeartbeats 4000000
set_option pp.maxSteps 600
set_option pp.deepTerms false
namespace RM
open PySem PySem.Spec PyProof.Rows L2
abbrev menu6 : List Str := ["url", "port", "mode", "a", "read", "else"]
theorem menu6_ok : ∀ t ∈ List.range 6, ((menu6.drop t ++ menu6.take t).Nodup ∧ (∀ k ∈ menu6.drop t ++ menu6.take t, isWord k = true) ∧ (menu6.drop t ++ menu6.take t).length = 6) := by decide +kernel
theorem but_new {d : Addr} {H H' : Hp} {p : Addr} {o : HO} (b : But d H H') (hp : H p = none) : But d H (upd H' p o) := fun c u hc => by
  have h9 := b c u hc
  by_cases cd : c = d
  · rw [cd, del_same] at hc; cases hc
  · rw [del_ne cd] at hc h9 ⊢
    rw [upd_ne (ne_of_none hc hp)]
    exact h9
theorem paired_andL {α β : Type} {F G : α → β → Prop} : ∀ {l : List α} {m : List β}, Paired F l m → (∀ x ∈ l, ∀ y, F x y → G x y) → Paired G l m
  | _, _, .nil, _ => .nil
  | _, _, .cons h t, k => .cons (k _ List.mem_cons_self _ h) (paired_andL t fun x hx y hy => k x (List.mem_cons_of_mem _ hx) y hy)
theorem len_put' (m : WM) (k : Str) (n : Int) : (wPut m k n).length ≤ m.length + 1 := by
  unfold wPut
  split
  · rw [List.length_map]; omega
  · rw [List.length_append]; exact Nat.le_refl _
section
variable {P : Program} {w : World} {K : PySem.W.Frag} {mg : Str → Option Value} {base : Heap}
/-- right values -/
def okV (vm : WM) : Prop := okM vm ∧ 1 ≤ vm.length ∧ vm.length ≤ 3
def spValues (K : PySem.W.Frag) : Sp := fun vs H Q _ => match vs with
  | [x] => ∃ d sc, x = .ref d ∧ DrawAt K H d sc ∧ ∀ a vm H', But d H H' → DrawAt K H' d sc → H a = none → H' a = some (.dK (mK vm)) → okV vm → Q (.ref a) H'
  | _ => False
theorem sc_law_values : FnScope ["_law_draws", "_law_menu", "_law_turn", "_law_many", "_law_values_here", "_law_k"] ["_law_draws"] (defScope s_law_values) := ⟨rfl, rfl, rfl, by decide +kernel, rfl, by decide +kernel, by decide +kernel⟩
theorem c_law_values (T : Top w K mg) : Cal P w K mg base CX0 2 "_law_values" (spValues K) := by
  refine cal_0 (f_law_values T) (g_law_values T) sc_law_values (fun _ _ _ _ _ _ us hl => match us, hl with | [_], _ => rfl) (fun vs H Q E h => match vs, h with | [_], _ => rfl) (fun cdv A outer s H vs Q E hr h => ?_)
  match vs, h with
  | [x], h =>
  obtain ⟨d, sc, rfl, d0, q⟩ := h
  refine ⟨_, (pss_cons (ps_set (i := 1) sc_law_values.nd rfl (Or.inl rfl) (pe_lst (pa_cons pe_str (pa_cons pe_str (pa_cons pe_str (pa_cons pe_str (pa_cons pe_str (pa_cons pe_str pa_nil))))))))
    (pss_cons (ps_set (i := 2) sc_law_values.nd rfl (Or.inl rfl) (pc (c_law_draw T) hr (pa_cons (pv 0) (pa_cons pe_int pa_nil))))
    (pss_cons (ps_set (i := 3) sc_law_values.nd rfl (Or.inl rfl) (pe_op op_add pe_int (pc (c_law_draw T) hr (pa_cons (pv 0) (pa_cons pe_int pa_nil)))))
    (pss_cons (ps_set (i := 4) sc_law_values.nd rfl (Or.inl rfl) pe_dnewK)
    (pss_cons (ps_for PassesOwn.never rfl (pi_range1 rfl (z_range T) (pa_cons (pv 3) pa_nil)) (pg_name (i := 5) sc_law_values.nd rfl (Or.inl rfl))
      (pss_one (ps_dput (hu_of hr) (pv 4) (pe_ix ix_list (pe_op op_cat (pe_slice sl_list (pv 1) (po_some (pv 2)) po_none) (pe_slice sl_list (pv 1) po_none (po_some (pv 2)))) (pv 5) (fun _ _ => rfl)) (pc (c_law_draw T) hr (pa_cons (pv 0) (pa_cons pe_int pa_nil))) rfl)))
    (pss_one (ps_ret (pv 4)))))))), ?_⟩
  refine ⟨(by show 6 ≤ sizeLine; decide), fun mn hmn => ?_⟩
  have d1 := d0.keep (smNew1 hmn (.lst (menu6.map V.str)))
  have nmn : mn ≠ d := fun z => d0.1.ne (by rw [← z]; exact hmn)
  refine ⟨_, rfl, d, sc, 6, rfl, rfl, d1, by decide, by decide, fun t H2 t0 t1 b2 d2 => ?_⟩
  obtain ⟨t, rfl, ht⟩ := drawn_of t0 t1
  have hm2 := b2.get nmn (upd_same : (upd H mn (.lst (menu6.map V.str))) mn = _)
  refine ⟨_, rfl, d, sc, 3, rfl, rfl, d2, by decide, by decide, fun m H3 m0 m1 b3 d3 => ?_⟩
  obtain ⟨m, rfl, hm⟩ := drawn_of m0 m1
  have hm3 := b3.get nmn hm2
  refine ⟨_, _, rfl, rfl, ?_⟩
  obtain ⟨M1, M2, M3⟩ := menu6_ok t (List.mem_range.mpr (by omega))
  intro vd hvd
  have bH3 : But d H H3 := (but_sm (smNew1 hmn _)).trans (b2.trans b3)
  have nvd0 : H vd = none := gro_but bH3 d3.1.ne vd hvd
  have nvd : vd ≠ d := fun z => d3.1.ne (by rw [← z]; exact hvd)
  have nmv : mn ≠ vd := ne_of_none hm3 hvd
  obtain ⟨ks, eks⟩ : ∃ ks, ks = menu6.drop t ++ menu6.take t := ⟨_, rfl⟩
  rw [← eks] at M1 M2 M3
  refine ⟨_, rfl, 1 + (m : Int), rfl, by omega, by omega, ?_⟩
  refine for_it (walk_range (lo := 0) (n := (1 + (m : Int)).toNat)) (fun i σ H' => DrawAt K H' d sc ∧ But d H H' ∧ H' mn = some (.lst (menu6.map V.str)) ∧ (∃ vm, H' vd = some (.dK (mK vm)) ∧ wKeys vm = ks.take i ∧ ∀ q ∈ vm, 0 ≤ q.2 ∧ q.2 < 2) ∧
    ∃ v3 v5, σ = [some (.ref d), some (.ref mn), some (.int t), v3, some (.ref vd), v5]) ⟨d3.keep (smNew1 hvd _), bH3.trans (but_sm (smNew1 hvd _)), by rw [upd_ne nmv]; exact hm3, ⟨[], upd_same, rfl, fun q hq => by simp at hq⟩, _, _, rfl⟩ (fun _ _ _ _ _ => trivial) ?_ ?_
  · rintro i x σ H4 H5 hi ⟨d4, b4, hm4, ⟨vm, hv4, kv4, bv4⟩, v3, v5, rfl⟩ ⟨rfl, rfl⟩
    have i6 : i < 3 := by omega
    refine ⟨_, rfl, d, sc, 2, rfl, rfl, d4, by decide, by decide, fun n H6 n0 n1 b6 d6 => ?_⟩
    have hv6 := dk_but b6 d4.1 hv4
    have hm6 := b6.get nmn hm4
    refine ⟨_, rfl, _, rfl, _, rfl, _, rfl, mn, _, rfl, SqL.of hm6, fun s1 hs1 => ?_⟩
    have hm7 : (upd H6 s1 (.lst (cutV (menu6.map V.str) (some (t : Int)) none))) mn = some (.lst (menu6.map V.str)) := (smNew1 hs1 _) _ _ hm6
    refine ⟨_, rfl, _, rfl, _, rfl, mn, _, rfl, SqL.of hm7, fun s2 hs2 => ?_⟩
    have s12 : s1 ≠ s2 := fun z => by rw [← z, upd_same] at hs2; cases hs2
    refine ⟨s1, s2, _, _, rfl, rfl, by rw [upd_ne s12]; exact upd_same, upd_same, ?_, fun s3 hs3 => ?_⟩
    · show (cutV (menu6.map V.str) (some (t : Int)) none).length + (cutV (menu6.map V.str) none (some (t : Int))).length ≤ sizeLine
      rw [cutL_post _ _ (by show t ≤ 6; omega), cutL_pre _ _ (by show t ≤ 6; omega), List.length_drop, List.length_take]
      exact Nat.le_of_lt (small1000 (by show 6 - t + min t 6 ≤ 1000; omega))
    · have ecat : cutV (menu6.map V.str) (some (t : Int)) none ++ cutV (menu6.map V.str) none (some (t : Int)) = ks.map V.str := by
        rw [cutL_post _ _ (by show t ≤ 6; omega), cutL_pre _ _ (by show t ≤ 6; omega), eks, List.map_append, List.map_drop, List.map_take]
      have hik : i < ks.length := by omega
      rw [ecat]
      refine ⟨_, rfl, s3, _, _, .str ks[i], rfl, (congrArg V.int (Int.zero_add _)), SqL.of upd_same, atI_nat (by rw [List.getElem?_map, List.getElem?_eq_getElem hik]; rfl), ?_⟩
      have e9 : Same H6 (upd (upd (upd H6 s1 (.lst (cutV (menu6.map V.str) (some (t : Int)) none))) s2 (.lst (cutV (menu6.map V.str) none (some (t : Int))))) s3 (.lst (ks.map V.str))) := smNew (smNew (smNew1 hs1 _) hs2 _) hs3 _
      obtain ⟨H9, eH9⟩ : ∃ H9, H9 = upd (upd (upd H6 s1 (.lst (cutV (menu6.map V.str) (some (t : Int)) none))) s2 (.lst (cutV (menu6.map V.str) none (some (t : Int))))) s3 (.lst (ks.map V.str)) := ⟨_, rfl⟩
      rw [← eH9] at e9 ⊢
      have hv9 := e9 _ _ hv6
      refine ⟨vd, _, rfl, .inl ⟨mK vm, .inr ks[i], hv9, rfl, small1000 (by rw [mk_len]; have := congrArg List.length kv4; unfold wKeys at this; rw [List.length_map, List.length_take] at this; omega), rfl⟩, ?_⟩
      rw [putK_w]
      have hnew : ks[i] ∉ wKeys vm := fun hin => by
        rw [kv4] at hin
        obtain ⟨j, hj, ej⟩ := List.mem_iff_getElem.mp hin
        rw [List.length_take] at hj
        rw [List.getElem_take] at ej
        have := (List.getElem_inj (h₀ := by omega) (h₁ := hik) M1).mp ej
        omega
      have b9 := (b4.trans b6).trans (but_sm e9)
      refine ⟨(d6.keep e9).dk hv9, fun c u hc => ?_, ?_, ⟨_, upd_same, ?_, fun q hq => ?_⟩, _, _, rfl⟩
      · have h9 := b9 c u hc
        have cv : c ≠ vd := fun z => by
          rw [z, del_ne nvd, nvd0] at hc
          cases hc
        by_cases cd : c = d
        · rw [cd, del_same] at hc; cases hc
        · rw [del_ne cd] at h9 ⊢
          rw [upd_ne cv]
          exact h9
      · rw [upd_ne nmv]
        exact e9 _ _ hm6
      · rw [wKeys_put, if_neg hnew, kv4, List.take_add_one, List.getElem?_eq_getElem hik]
        rfl
      · unfold wPut at hq
        rw [if_neg hnew] at hq
        rcases List.mem_append.mp hq with z | z
        · exact bv4 q z
        · rw [List.mem_singleton.mp z]
          exact ⟨n0, n1⟩
  · rintro σ H4 ⟨d4, b4, hm4, ⟨vm, hv4, kv4, bv4⟩, v3, v5, rfl⟩
    refine ⟨_, rfl, q vd vm H4 b4 d4 nvd0 hv4 ?_⟩
    have lv : vm.length = (1 + (m : Int)).toNat := by
      have := congrArg List.length kv4
      unfold wKeys at this
      rw [List.length_map, List.length_take] at this
      omega
    refine ⟨⟨fun q hq => ⟨?_, ?_⟩, ?_⟩, by omega, by omega⟩
    · exact M2 _ (List.mem_of_mem_take (by rw [← kv4]; exact List.mem_map.mpr ⟨q, hq, rfl⟩))
    · have := bv4 q hq
      unfold isValue
      rw [decide_eq_true (by omega), decide_eq_true (by omega)]
      rfl
    · show (wKeys vm).Nodup
      rw [kv4]
      exact M1.sublist (List.take_sublist ..)
/-! ### _law_changes -/
def okG (ks : List Str) (g : WM) : Prop := okM g ∧ (∀ k ∈ wKeys g, k ∈ ks) ∧ g.length ≤ 2
theorem okG_put {ks : List Str} {g : WM} {k : Str} {n : Int} (h : okM g ∧ (∀ k ∈ wKeys g, k ∈ ks)) (wk : isWord k = true) (hk : k ∈ ks) (h0 : 0 ≤ n) (h1 : n < 2) : okM (wPut g k n) ∧ ∀ j ∈ wKeys (wPut g k n), j ∈ ks := by
  refine ⟨okM_put h.1 wk (by unfold isValue; rw [decide_eq_true (by omega), decide_eq_true (by omega)]; rfl), fun j hj => ?_⟩
  rw [wKeys_put] at hj
  split at hj
  · exact h.2 j hj
  · rcases List.mem_append.mp hj with z | z
    · exact h.2 j z
    · rw [List.mem_singleton.mp z]; exact hk
def spChanges (K : PySem.W.Frag) : Sp := fun vs H Q _ => match vs with
  | [x, y, z] => ∃ d sc a vm, ∃ most : Nat, x = .ref d ∧ y = .ref a ∧ z = .int most ∧ most ≤ 10 ∧ DrawAt K H d sc ∧ H a = some (.dK (mK vm)) ∧ okV vm ∧
    ∀ r cv gs H', But d H H' → DrawAt K H' d sc → H r = none → H' r = some (.lst (cv.map V.ref)) → Paired (fun c g => H' c = some (.dK (mK g)) ∧ H c = none ∧ okG (wKeys vm) g) cv gs → gs.length ≤ most → Q (.ref r) H'
  | _ => False
theorem sc_law_changes : FnScope ["_law_draws", "_law_values_here", "_law_most", "_law_names", "_law_changes_here", "_law_k", "_law_given", "_law_j"] ["_law_draws", "_law_values_here", "_law_most"] (defScope s_law_changes) := ⟨rfl, rfl, rfl, by decide +kernel, rfl, by decide +kernel, by decide +kernel⟩
theorem c_law_changes (T : Top w K mg) : Cal P w K mg base CX0 2 "_law_changes" (spChanges K) := by
  refine cal_0 (f_law_changes T) (g_law_changes T) sc_law_changes (fun _ _ _ _ _ _ us hl => match us, hl with | [_, _, _], _ => rfl) (fun vs H Q E h => match vs, h with | [_, _, _], _ => rfl) (fun cdv A outer s H vs Q E hr h => ?_)
  match vs, h with
  | [x, y, z], h =>
  obtain ⟨d, sc, a, vm, most, rfl, rfl, rfl, hmost, d0, ha, ov, q⟩ := h
  refine ⟨_, (pss_cons (ps_set (i := 3) sc_law_changes.nd rfl (Or.inl rfl) (pcb (z_sorted T) (call_sortedD rfl) boot_sorted (pa_cons (pv 1) pa_nil)))
    (pss_cons (ps_set (i := 4) sc_law_changes.nd rfl (Or.inl rfl) (pe_lst pa_nil))
    (pss_cons (ps_for PassesOwn.never rfl (pi_range1 rfl (z_range T) (pa_cons (pc (c_law_draw T) hr (pa_cons (pv 0) (pa_cons (pe_op op_add (pv 2) pe_int) pa_nil))) pa_nil)) (pg_name (i := 5) sc_law_changes.nd rfl (Or.inl rfl))
      (pss_cons (ps_set (i := 6) sc_law_changes.nd rfl (Or.inl rfl) pe_dnewK)
    (pss_cons (ps_for PassesOwn.never rfl (pi_range1 rfl (z_range T) (pa_cons (pc (c_law_draw T) hr (pa_cons (pv 0) (pa_cons pe_int pa_nil))) pa_nil)) (pg_name (i := 7) sc_law_changes.nd rfl (Or.inl rfl))
      (pss_one (ps_dput (hu_of hr) (pv 6) (pe_ix ix_list (pv 3) (pc (c_law_draw T) hr (pa_cons (pv 0) (pa_cons (pcb (z_len T) call_len_seq boot_len (pa_cons (pv 3) pa_nil)) pa_nil))) (fun _ _ => rfl)) (pc (c_law_draw T) hr (pa_cons (pv 0) (pa_cons pe_int pa_nil))) rfl)))
    (pss_one (ps_expr (pe_bm PySem.F.plainAttrs_list PySem.F.slot_list_append PySem.F.type_list_append mt_append (pv 4) (pa_cons (pv 6) pa_nil)))))))
    (pss_one (ps_ret (pv 4)))))), ?_⟩
  have lvm : (wKeys vm).length = vm.length := List.length_map ..
  refine ⟨_, rfl, a, mK vm, wKeys vm, rfl, .of ha, by unfold mK wKeys; rw [List.map_map, List.map_map]; rfl, by rw [lvm]; have := ov.2.2; omega, fun ys nm hperm hsort hnm => ?_⟩
  have lys : ys.length = vm.length := by rw [hperm.length_eq, lvm]
  have s1 : Same H (upd H nm (.lst (ys.map V.str))) := smNew1 hnm _
  have nnm : nm ≠ d := fun z => d0.1.ne (by rw [← z]; exact hnm)
  refine ⟨(by show 0 ≤ sizeLine; decide), fun cl hcl => ?_⟩
  have s2 := smNew s1 hcl (.lst [])
  have ncl : cl ≠ d := fun z => (d0.keep s1).1.ne (by rw [← z]; exact hcl)
  have nmcl : nm ≠ cl := fun z => by rw [← z, upd_same] at hcl; cases hcl
  have cl0 : H cl = none := s1.free hcl
  have d2 := (d0.keep s1).two hcl (.lst [])
  refine ⟨_, rfl, _, rfl, _, _, rfl, rfl, d, sc, _, rfl, rfl, d2.one, by omega, by omega, fun m H3 m0 m1 b3 d3 => ?_⟩
  obtain ⟨m, rfl, hm⟩ := drawn_of m0 m1
  have hnm3 : H3 nm = some (.lst (ys.map V.str)) := b3.get nnm (by rw [upd_ne nmcl]; exact upd_same)
  have hcl3 : H3 cl = some (.lst []) := b3.get ncl upd_same
  refine ⟨_, rfl, by omega, by omega, ?_⟩
  have b03 : But d H H3 := (but_sm s2).trans b3
  refine for_it (walk_range (lo := 0) (n := m)) (fun i σ H' => Draw2 K H' d sc cl ∧ But d H H' ∧ H' nm = some (.lst (ys.map V.str)) ∧ ∃ cv gs v5 v6 v7, H' cl = some (.lst (cv.map V.ref)) ∧ Paired (fun c g => H' c = some (.dK (mK g)) ∧ H c = none ∧ okG (wKeys vm) g) cv gs ∧ cv.length = i ∧
    σ = [some (.ref d), some (.ref a), some (.int most), some (.ref nm), some (.ref cl), v5, v6, v7]) ⟨d2.but b3 d3, b03, hnm3, [], [], _, _, _, hcl3, .nil, rfl, rfl⟩ (fun _ _ _ _ _ => trivial) ?_ ?_
  · rintro i x σ H7 H7' hi ⟨D7, b7, hn7, cv, gs, v5, v6, v7, hc7, pg7, lcv, rfl⟩ ⟨rfl, rfl⟩
    intro gv hgv
    have gv0 : H gv = none := gro_but b7 D7.hd.ne gv hgv
    have ngv : gv ≠ d := fun z => D7.hd.ne (by rw [← z]; exact hgv)
    have gnew : ∀ c ∈ cv, c ≠ gv := fun c hc => by
      obtain ⟨g, _, hg, _⟩ := paired_mem' pg7 c hc
      exact ne_of_none hg hgv
    have D8 := D7.keep (smNew1 hgv (.dK []))
    refine ⟨_, rfl, d, sc, 3, rfl, rfl, D8.one, by decide, by decide, fun j H9 j0 j1 b9 d9 => ?_⟩
    obtain ⟨j, rfl, j3⟩ := drawn_of j0 j1
    have D9 := D8.but b9 d9
    have hg9 := dk_but b9 D8.hd (upd_same : (upd H7' gv (.dK [])) gv = _)
    have b79 : But d H7' H9 := (but_sm (smNew1 hgv (.dK []))).trans b9
    have b09 : But d H H9 := b7.trans b79
    have hn9 := b79.get nnm hn7
    have hc9 := b79.get ncl hc7
    have pg9 : Paired (fun c g => H9 c = some (.dK (mK g)) ∧ H c = none ∧ okG (wKeys vm) g) cv gs := paired_mono pg7 fun _ _ z => ⟨dk_but b79 D7.hd z.1, z.2⟩
    refine ⟨_, rfl, by omega, by omega, ?_⟩
    refine for_it (walk_range (lo := 0) (n := j)) (fun i σ H' => Draw2 K H' d sc cl ∧ But d H H' ∧ H' nm = some (.lst (ys.map V.str)) ∧ H' cl = some (.lst (cv.map V.ref)) ∧ Paired (fun c g => H' c = some (.dK (mK g)) ∧ H c = none ∧ okG (wKeys vm) g) cv gs ∧ ∃ g v5 v7, H' gv = some (.dK (mK g)) ∧ (okM g ∧ ∀ k ∈ wKeys g, k ∈ wKeys vm) ∧ g.length ≤ i ∧
      σ = [some (.ref d), some (.ref a), some (.int most), some (.ref nm), some (.ref cl), v5, some (.ref gv), v7]) ?_ (fun _ _ _ _ _ => trivial) ?_ ?_
    · exact ⟨D9, b09, hn9, hc9, pg9, [], _, _, hg9, ⟨⟨fun q hq => by simp at hq, List.nodup_nil⟩, fun k hk => by simp [wKeys] at hk⟩, Nat.le_refl _, rfl⟩
    · rintro i2 x2 σ HA HB hi2 ⟨DA, bA, hnA, hcA, pgA, g, w5, w7, hgA, okg, lg, rfl⟩ ⟨rfl, rfl⟩
      refine ⟨_, rfl, d, sc, 2, rfl, rfl, DA.one, by decide, by decide, fun n HC n0 n1 bC dC => ?_⟩
      have DC := DA.but bC dC
      have hgC := dk_but bC DA.hd hgA
      have hnC := bC.get nnm hnA
      refine ⟨_, rfl, _, rfl, _, rfl, _, rfl, nm, _, rfl, .inl (SqL.of hnC), d, sc, _, rfl, rfl, DC.one, ?_, ?_, fun r HD r0 r1 bD dD => ?_⟩
      · rw [List.length_map]; have := ov.2.1; omega
      · rw [List.length_map]; have := ov.2.2; omega
      have DD := DC.but bD dD
      have hgD := dk_but bD DC.hd hgC
      obtain ⟨r, rfl, r1'⟩ := drawn_of r0 r1
      rw [List.length_map] at r1'
      have hr : r < ys.length := by omega
      have hky : ys[r] ∈ wKeys vm := hperm.mem_iff.mp (List.getElem_mem hr)
      have wky : isWord ys[r] = true := by
        obtain ⟨p, hp, e⟩ := List.mem_map.mp hky
        rw [← e]
        exact (ov.1.1 p hp).1
      have hnD := bD.get nnm hnC
      refine ⟨nm, _, _, .str ys[r], rfl, rfl, SqL.of hnD, atI_nat (by rw [List.getElem?_map, List.getElem?_eq_getElem hr]; rfl), ?_⟩
      refine ⟨gv, _, rfl, .inl ⟨mK g, .inr ys[r], hgD, rfl, small1000 (by rw [mk_len]; omega), rfl⟩, ?_⟩
      rw [putK_w]
      have bAD := bC.trans bD
      have cgv : cl ≠ gv := fun z => by rw [← z, hcA] at hgA; cases hgA
      have ngvn : nm ≠ gv := fun z => by rw [← z, hnA] at hgA; cases hgA
      refine ⟨DD.dk hgD (Ne.symm cgv), but_new (bA.trans bAD) gv0, ?_, ?_, ?_, wPut g ys[r] n, _, _, upd_same, okG_put okg wky hky n0 n1, ?_, rfl⟩
      · rw [upd_ne ngvn]; exact hnD
      · rw [upd_ne cgv]; exact bAD.get ncl hcA
      · refine paired_andL pgA fun c hc _ z => ⟨?_, z.2⟩
        rw [upd_ne (gnew c hc)]
        exact dk_but bAD DA.hd z.1
      · have := len_put' g ys[r] n
        omega
    · rintro σ HA ⟨DA, bA, hnA, hcA, pgA, g, w5, w7, hgA, okg, lg, rfl⟩
      refine ⟨_, rfl, .inl ⟨rfl, _, SqL.of hcA⟩, _, rfl, cl, _, .ref gv, rfl, rfl, hcA, small1000 (by rw [List.length_map]; omega), ?_⟩
      refine ⟨DA.upd _, but_new bA cl0, ?_, cv ++ [gv], gs ++ [g], _, _, _, ?_, ?_, by rw [List.length_append, lcv]; rfl, rfl⟩
      · rw [upd_ne nmcl]; exact hnA
      · rw [upd_same, List.map_append]; rfl
      · exact Paired.snoc (paired_mono pgA fun _ _ z => ⟨dk_updL hcA z.1, z.2⟩) ⟨dk_updL hcA hgA, gv0, okg.1, okg.2, by omega⟩
  · rintro σ H7 ⟨D7, b7, hn7, cv, gs, v5, v6, v7, hc7, pg7, lcv, rfl⟩
    have := pg7.length
    exact ⟨_, rfl, q cl cv gs H7 b7 D7.one cl0 hc7 pg7 (by omega)⟩
end
end RM

set_option Elab.async false
set_option linter.all false
set_option maxRecDepth 100000
set_option maxHeartbeats 4000000
set_option pp.maxSteps 600
set_option pp.deepTerms false
namespace RM
open PySem PySem.Spec PyProof.Rows L2
mutual
theorem kS_mono {ks ks' : List Str} (h : ∀ k ∈ ks, k ∈ ks') : ∀ st : Stm, kS ks st = true → kS ks' st = true
  | .read v k, e => by
    rw [kS] at e ⊢
    exact decide_eq_true (h k (of_decide_eq_true e))
  | .set _ _, _ => by simp [kS]
  | .copy _ _, _ => by simp [kS]
  | .print _, _ => by simp [kS]
  | .say _, _ => by simp [kS]
  | .wait, _ => by simp [kS]
  | .stop, _ => by simp [kS]
  | .ite v n a b, e => by
    rw [kS, Bool.and_eq_true] at e ⊢
    exact ⟨kB_mono h a e.1, kB_mono h b e.2⟩
  | .same v n a b, e => by
    rw [kS, Bool.and_eq_true] at e ⊢
    exact ⟨kB_mono h a e.1, kB_mono h b e.2⟩
  | .rep n a, e => by
    rw [kS] at e ⊢
    exact kB_mono h a e
theorem kB_mono {ks ks' : List Str} (h : ∀ k ∈ ks, k ∈ ks') : ∀ l : List Stm, kB ks l = true → kB ks' l = true
  | [], _ => by simp [kB]
  | s :: r, e => by
    rw [kB, Bool.and_eq_true] at e ⊢
    exact ⟨kS_mono h s e.1, kB_mono h r e.2⟩
end
/-- the statements that may be put ahead -/
def moreS (one two : Str) : List Stm := [.read "x" one, .wait, .read "y" two, .print "x", .print "y"]
theorem more_ok {one two : Str} {ks : List Str} (w1 : isWord one = true) (w2 : isWord two = true) (h1 : one ∈ ks) (h2 : two ∈ ks) : ∀ j, wB ((moreS one two).take j) = true ∧ kB ks ((moreS one two).take j) = true ∧ dB ((moreS one two).take j) = 1 ∧ cB ((moreS one two).take j) ≤ 5 ∧ vB ((moreS one two).take j) = true := by
  intro j
  have w : wB (moreS one two) = true := by
    have ex : isWord "x" = true := by decide +kernel
    have ey : isWord "y" = true := by decide +kernel
    simp only [moreS, wB, wS, w1, w2, ex, ey, Bool.and_true, Bool.and_self]
  have k : kB ks (moreS one two) = true := by simp [moreS, kB, kS, h1, h2]
  have d : dB (moreS one two) = 1 := by simp [moreS, dB, dS]
  have c : cB (moreS one two) = 5 := by simp [moreS, cB, cS]
  have v : vB (moreS one two) = true := by
    have ex : isV "x" = true := by decide +kernel
    have ey : isV "y" = true := by decide +kernel
    simp only [moreS, vB, vS, ex, ey, Bool.and_true, Bool.and_self]
  refine ⟨wB_take w j, kB_take k j, ?_, ?_, vB_take v j⟩
  · have := dB_le (l := moreS one two) (m := j)
    have := dB_one ((moreS one two).take j)
    omega
  · have := cB_app ((moreS one two).take j) ((moreS one two).drop j)
    rw [List.take_append_drop] at this
    omega
theorem dB_app1 : ∀ (l m : List Stm), dB (l ++ m) = max (dB l) (dB m)
  | [], m => by
    have := dB_one m
    show dB m = max 1 (dB m)
    omega
  | s :: r, m => by
    rw [List.cons_append, dB, dB, dB_app1 r m]
    omega
section
variable {P : Program} {w : World} {K : PySem.W.Frag} {mg : Str → Option Value} {base : Heap}
/-- a case: values, a body, changes -/
structure CaseAt (K : PySem.W.Frag) (H : Hp) (r : Addr) (vm : WM) (l : List Stm) (gs : List WM) : Prop where
  at_ : ∃ va bl cl ys cv, H r = some (.lst [.ref va, .ref bl, .ref cl]) ∧ H va = some (.dK (mK vm)) ∧ H bl = some (.lst ys) ∧ DpAll K H ys (encB true l) ∧ H cl = some (.lst (cv.map V.ref)) ∧ Paired (fun c g => H c = some (.dK (mK g))) cv gs
  ov : okV vm
  og : ∀ g ∈ gs, okG (wKeys vm) g
  lg : gs.length ≤ 3
  wl : wB l = true
  kl : kB (wKeys vm) l = true
  dl : dB l ≤ 3
  cl : cB l ≤ 45
theorem CaseAt.keep {H H' : Hp} {r : Addr} {vm : WM} {l : List Stm} {gs : List WM} (e : Same H H') (h : CaseAt K H r vm l gs) : CaseAt K H' r vm l gs := by
  obtain ⟨va, bl, cl, ys, cv, h1, h2, h3, h4, h5, h6⟩ := h.at_
  exact { h with at_ := ⟨va, bl, cl, ys, cv, e _ _ h1, e _ _ h2, e _ _ h3, DpAll.keep e h4, e _ _ h5, paired_mono h6 fun _ _ z => e _ _ z⟩ }
def spCase (K : PySem.W.Frag) : Sp := fun vs H Q _ => match vs with
  | [x] => ∃ d sc, x = .ref d ∧ DrawAt K H d sc ∧ ∀ r vm l gs H', But d H H' → DrawAt K H' d sc → H r = none → CaseAt K (nw H H') r vm l gs → Q (.ref r) H'
  | _ => False
/-- .. and the body's list is not the changes' -/
def spCaseN (K : PySem.W.Frag) : Sp := fun vs H Q _ => match vs with
  | [x] => ∃ d sc, x = .ref d ∧ DrawAt K H d sc ∧ ∀ r vm l gs H', But d H H' → DrawAt K H' d sc → H r = none → CaseAt K (nw H H') r vm l gs → (∀ va bl cl ys, H' r = some (.lst [.ref va, .ref bl, .ref cl]) → H' bl = some (.lst ys) → bl ≠ cl ∧ r ≠ bl ∧ r ≠ cl ∧ vB l = true ∧ DpAll K (del (del (nw H H') bl) cl) ys (encB true l)) → Q (.ref r) H'
  | _ => False
theorem nwDel2 {H H3 H4 : Hp} {p : Addr} (e : Same H3 H4) (np : H3 p = none) : Same (nw H H3) (del (nw H H4) p) := fun b u hb => by
  obtain ⟨h0, h3⟩ := nw_some hb
  have bp : b ≠ p := ne_of_none h3 np
  rw [del_ne bp, nw_new h0]
  exact e _ _ h3
theorem sc_law_case : FnScope ["_law_draws", "_law_values_here", "_law_names", "_law_body_here", "_law_one", "_law_two", "_law_more"] ["_law_draws"] (defScope s_law_case) := ⟨rfl, rfl, rfl, by decide +kernel, rfl, by decide +kernel, by decide +kernel⟩
theorem c_law_caseN (T : Top w K mg) : Cal P w K mg base CX0 8 "_law_case" (spCaseN K) := by
  refine cal_0 (f_law_case T) (g_law_case T) sc_law_case (fun _ _ _ _ _ _ us hl => match us, hl with | [_], _ => rfl) (fun vs H Q E h => match vs, h with | [_], _ => rfl) (fun cdv A outer s H vs Q E hr h => ?_)
  match vs, h with
  | [x], h =>
  obtain ⟨d, sc, rfl, d0, q⟩ := h
  refine ⟨_, (pss_cons (ps_set (i := 1) sc_law_case.nd rfl (Or.inl rfl) (pc (c_law_values T) hr (pa_cons (pv 0) pa_nil)))
    (pss_cons (ps_set (i := 2) sc_law_case.nd rfl (Or.inl rfl) (pcb (z_sorted T) (call_sortedD rfl) boot_sorted (pa_cons (pv 1) pa_nil)))
    (pss_cons (ps_set (i := 3) sc_law_case.nd rfl (Or.inl rfl) (pc (c_law_short T) hr (pa_cons (pc (c_law_body T 3) hr (pa_cons (pv 0) (pa_cons (pv 2) (pa_cons pe_int (pa_cons pe_int pa_nil))))) pa_nil)))
    (pss_cons (ps_mid (ps_if (pt_cmpR op_eq (pc (c_law_draw T) hr (pa_cons (pv 0) (pa_cons pe_int pa_nil))) pe_int (nomark _))
      (pss_cons (ps_set (i := 4) sc_law_case.nd rfl (Or.inl rfl) (pe_ix ix_list (pv 2) (pc (c_law_draw T) hr (pa_cons (pv 0) (pa_cons (pcb (z_len T) call_len_seq boot_len (pa_cons (pv 2) pa_nil)) pa_nil))) (fun _ _ => rfl)))
    (pss_cons (ps_set (i := 5) sc_law_case.nd rfl (Or.inl rfl) (pe_ix ix_list (pv 2) (pc (c_law_draw T) hr (pa_cons (pv 0) (pa_cons (pcb (z_len T) call_len_seq boot_len (pa_cons (pv 2) pa_nil)) pa_nil))) (fun _ _ => rfl)))
    (pss_cons (ps_set (i := 6) sc_law_case.nd rfl (Or.inl rfl) (pe_lst (pa_cons (pe_tup (pa_cons pe_str (pa_cons pe_str (pa_cons (pv 4) pa_nil)))) (pa_cons (pe_tup (pa_cons pe_str pa_nil)) (pa_cons (pe_tup (pa_cons pe_str (pa_cons pe_str (pa_cons (pv 5) pa_nil)))) (pa_cons (pe_tup (pa_cons pe_str (pa_cons pe_str pa_nil))) (pa_cons (pe_tup (pa_cons pe_str (pa_cons pe_str pa_nil))) pa_nil)))))))
    (pss_one (ps_set (i := 3) sc_law_case.nd rfl (Or.inl rfl) (pe_op op_cat (pe_slice sl_list (pv 6) po_none (po_some (pe_op op_add pe_int (pc (c_law_draw T) hr (pa_cons (pv 0) (pa_cons pe_int pa_nil)))))) (pv 3)))))))
      pss_nil))
    (pss_one (ps_ret (pe_lst (pa_cons (pv 1) (pa_cons (pv 3) (pa_cons (pc (c_law_changes T) hr (pa_cons (pv 0) (pa_cons (pv 1) (pa_cons pe_int pa_nil)))) pa_nil)))))))))), ?_⟩
  refine ⟨_, rfl, d, sc, rfl, d0, fun va vm H1 b1 d1 nva hva ov => ?_⟩
  have lvm : (wKeys vm).length = vm.length := List.length_map ..
  refine ⟨_, rfl, va, mK vm, wKeys vm, rfl, .of hva, by unfold mK wKeys; rw [List.map_map, List.map_map]; rfl, by rw [lvm]; have := ov.2.2; omega, fun ks nm hperm hsort hnm => ?_⟩
  have lks : ks.length = vm.length := by rw [hperm.length_eq, lvm]
  have kin : ∀ k ∈ ks, k ∈ wKeys vm := fun k hk => hperm.mem_iff.mp hk
  have kw : ∀ k ∈ ks, isWord k = true := fun k hk => by
    obtain ⟨p, hp, e⟩ := List.mem_map.mp (kin k hk)
    rw [← e]
    exact (ov.1.1 p hp).1
  have nnm : nm ≠ d := fun z => d1.1.ne (by rw [← z]; exact hnm)
  have d2 := d1.keep (smNew1 hnm (.lst (ks.map V.str)))
  have c2 : Ctx K (upd H1 nm (.lst (ks.map V.str))) d sc nm ks := ⟨d2, SqL.of (by rw [del_ne nnm]; exact upd_same), by have := ov.2.1; omega, by have := ov.2.2; omega, kw⟩
  have b2 : But d H (upd H1 nm (.lst (ks.map V.str))) := b1.trans (but_sm (smNew1 hnm _))
  refine ⟨_, rfl, _, rfl, d, sc, nm, ks, 2, 5, rfl, rfl, rfl, rfl, by decide, by decide, by decide, c2, fun r l0 ys0 H3 wl0 kl0 vl0 dl0 cl0 b3 d3 nr hr hys0 => ?_⟩
  have b03 := b2.trans b3
  have g02 := gro_but b2 d2.1.ne
  have c3 := c2.but b3 d3
  have hy3 : DpAll K (nw H H3) ys0 (encB true l0) := DpAll.keep ((del_sm _ _).trans (nw_back g02)) hys0
  refine ⟨r, ys0, l0, rfl, SqL.of hr, DpAll.keep (nw_sm _ _) hy3, wl0, by omega, fun p j H4 e4 np hp cj _ => ?_⟩
  have b04 := b03.trans (but_sm e4)
  have d4 := d3.keep e4
  have c4 := c3.keep e4
  have np0 : H p = none := gro_but b03 d3.1.ne p np
  have npd : p ≠ d := fun z => d3.1.ne (by rw [← z]; exact np)
  have hy4 : DpAll K (nw H H4) (ys0.take j) (encB true (l0.take j)) := by
    rw [encB_take]
    exact DpAll.keep (nw_keep e4) (DpAll.take j hy3)
  have hva4 : H4 va = some (.dK (mK vm)) := e4 _ _ (dk_but b3 d2.1 ((smNew1 hnm _) _ _ hva))
  refine ⟨fun σ' H' => ∃ bl l ys v4 v5 v6, DrawAt K H' d sc ∧ But d H H' ∧ H' va = some (.dK (mK vm)) ∧ H bl = none ∧ H' bl = some (.lst ys) ∧ DpAll K (del (nw H H') bl) ys (encB true l) ∧ wB l = true ∧ kB ks l = true ∧ dB l ≤ 3 ∧ cB l ≤ 45 ∧ vB l = true ∧ σ' = [some (.ref d), some (.ref va), some (.ref nm), some (.ref bl), v4, v5, v6], ?_, ?_⟩
  · refine ⟨_, rfl, d, sc, 2, rfl, rfl, d4, by decide, by decide, fun c H5 c0 c1 b5 d5 => ?_⟩
    have c5 := c4.but b5 d5
    have hy5 := DpAll.keep (nw_but b5 d0.1.ne) hy4
    have hy5' : DpAll K (del (nw H H5) p) (ys0.take j) (encB true (l0.take j)) := by
      rw [encB_take]
      exact DpAll.keep ((nwDel2 e4 np).trans (del_mono (nw_but b5 d0.1.ne))) (DpAll.take j hy3)
    have hva5 := dk_but b5 d4.1 hva4
    have hp5 := b5.get npd hp
    have b05 := b04.trans b5
    have cj' : cB (l0.take j) ≤ 45 := by omega
    refine ⟨rfl, _, rfl, ifB (fun hc => ?_) (fun hc => ⟨p, l0.take j, ys0.take j, _, _, _, d5, b05, hva5, np0, hp5, hy5', wB_take wl0 j, kB_take kl0 j, Nat.le_trans dB_le dl0, cj', vB_take vl0 j, rfl⟩)⟩
    have hn5 := (del_sm H5 d).seq c5.2.1
    refine ⟨_, rfl, _, rfl, _, rfl, nm, _, rfl, .inl hn5, ?_⟩
    refine ⟨d, sc, _, rfl, rfl, d5, by rw [List.length_map]; have := c2.2.2.1; omega, by rw [List.length_map]; have := c2.2.2.2.1; omega, fun i1 H6 i10 i11 b6 d6 => ?_⟩
    have c6 := c5.but b6 d6
    obtain ⟨i1, rfl, hi1⟩ := draw_of i10 i11
    rw [List.length_map] at hi1
    have hi1' : i1 < ks.length := by omega
    have hn6 := (del_sm H6 d).seq c6.2.1
    refine ⟨nm, _, _, .str ks[i1], rfl, rfl, hn6, atI_nat (by rw [List.getElem?_map, List.getElem?_eq_getElem hi1']; rfl), ?_⟩
    refine ⟨_, rfl, _, rfl, _, rfl, nm, _, rfl, .inl hn6, ?_⟩
    refine ⟨d, sc, _, rfl, rfl, d6, by rw [List.length_map]; have := c2.2.2.1; omega, by rw [List.length_map]; have := c2.2.2.2.1; omega, fun i2 H7 i20 i21 b7 d7 => ?_⟩
    have c7 := c6.but b7 d7
    obtain ⟨i2, rfl, hi2⟩ := draw_of i20 i21
    rw [List.length_map] at hi2
    have hi2' : i2 < ks.length := by omega
    have hn7 := (del_sm H7 d).seq c7.2.1
    refine ⟨nm, _, _, .str ks[i2], rfl, rfl, hn7, atI_nat (by rw [List.getElem?_map, List.getElem?_eq_getElem hi2']; rfl), ?_⟩
    have b07 := b05.trans (b6.trans b7)
    have g07 := gro_but b07 d7.1.ne
    refine ⟨_, rfl, (by show 3 ≤ sizeLine; decide), fun t1 ht1 => ?_⟩
    refine ⟨(by show 1 ≤ sizeLine; decide), fun t2 ht2 => ?_⟩
    refine ⟨_, rfl, (by show 3 ≤ sizeLine; decide), fun t3 ht3 => ?_⟩
    refine ⟨(by show 2 ≤ sizeLine; decide), fun t4 ht4 => ?_⟩
    refine ⟨(by show 2 ≤ sizeLine; decide), fun t5 ht5 => ?_⟩
    refine ⟨(by show 5 ≤ sizeLine; decide), fun m hm => ?_⟩
    have s1 := smNew1 ht1 (.tup [.str "read", .str "x", .str ks[i1]])
    have s2 := smNew1 ht2 (.tup [.str "wait"])
    have s3 := smNew1 ht3 (.tup [.str "read", .str "y", .str ks[i2]])
    have s4 := smNew1 ht4 (.tup [.str "print", .str "x"])
    have s5 := smNew1 ht5 (.tup [.str "print", .str "y"])
    have s6 := smNew1 hm (.lst [.ref t1, .ref t2, .ref t3, .ref t4, .ref t5])
    obtain ⟨H8, e8, a1, a2, a3, a4, a5, a6⟩ : ∃ H8, H8 = upd (upd (upd (upd (upd (upd H7 t1 (.tup [.str "read", .str "x", .str ks[i1]])) t2 (.tup [.str "wait"])) t3 (.tup [.str "read", .str "y", .str ks[i2]])) t4 (.tup [.str "print", .str "x"])) t5 (.tup [.str "print", .str "y"])) m (.lst [.ref t1, .ref t2, .ref t3, .ref t4, .ref t5]) ∧
      H8 t1 = some (.tup [.str "read", .str "x", .str ks[i1]]) ∧ H8 t2 = some (.tup [.str "wait"]) ∧ H8 t3 = some (.tup [.str "read", .str "y", .str ks[i2]]) ∧ H8 t4 = some (.tup [.str "print", .str "x"]) ∧ H8 t5 = some (.tup [.str "print", .str "y"]) ∧ H8 m = some (.lst [.ref t1, .ref t2, .ref t3, .ref t4, .ref t5]) :=
      ⟨_, rfl, (s2.trans (s3.trans (s4.trans (s5.trans s6)))) _ _ upd_same, (s3.trans (s4.trans (s5.trans s6))) _ _ upd_same, (s4.trans (s5.trans s6)) _ _ upd_same, (s5.trans s6) _ _ upd_same, s6 _ _ upd_same, upd_same⟩
    have s78 : Same H7 H8 := by rw [e8]; exact s1.trans (s2.trans (s3.trans (s4.trans (s5.trans s6))))
    have m1 := g07 _ ht1
    have m2 := g07 _ (s1.free ht2)
    have m3 := g07 _ ((s1.trans s2).free ht3)
    have m4 := g07 _ ((s1.trans (s2.trans s3)).free ht4)
    have m5 := g07 _ ((s1.trans (s2.trans (s3.trans s4))).free ht5)
    have mm := (s1.trans (s2.trans (s3.trans (s4.trans s5)))).free hm
    rw [← e8]
    clear e8 s1 s2 s3 s4 s5 s6 ht1 ht2 ht3 ht4 ht5 hm
    have hmore : DpAll K (nw H H8) [.ref t1, .ref t2, .ref t3, .ref t4, .ref t5] (encB true (moreS ks[i1] ks[i2])) := by
      refine .cons (.tup (SqT.of (by rw [nw_new m1]; exact a1)) (.cons (.str _) (.cons (.str _) (.cons (.str _) .nil)))) (.cons (.tup (SqT.of (by rw [nw_new m2]; exact a2)) (.cons (.str _) .nil)) (.cons (.tup (SqT.of (by rw [nw_new m3]; exact a3)) (.cons (.str _) (.cons (.str _) (.cons (.str _) .nil)))) (.cons (.tup (SqT.of (by rw [nw_new m4]; exact a4)) (.cons (.str _) (.cons (.str _) .nil))) (.cons (.tup (SqT.of (by rw [nw_new m5]; exact a5)) (.cons (.str _) (.cons (.str _) .nil))) .nil))))
    have d8 := d7.keep s78
    have md : m ≠ d := fun z => d7.1.ne (by rw [← z]; exact mm)
    refine ⟨_, rfl, _, rfl, d, sc, 3, rfl, rfl, d8, by decide, by decide, fun z H9 z0 z1 b9 d9 => ?_⟩
    obtain ⟨z, rfl, hz⟩ := draw_of z0 z1
    have hm9 := b9.get md a6
    refine ⟨_, _, rfl, rfl, 3 + (z : Int), rfl, m, _, rfl, SqL.of hm9, fun s1 hs1 => ?_⟩
    have ecut : cutV [V.ref t1, .ref t2, .ref t3, .ref t4, .ref t5] none (some (3 + (z : Int))) = [V.ref t1, .ref t2, .ref t3, .ref t4, .ref t5].take (3 + z) := by
      rw [show (3 + (z : Int)) = ((3 + z : Nat) : Int) by omega, cutL_pre _ _ (by show 3 + z ≤ 5; omega)]
    rw [ecut]
    have s10 := smNew1 hs1 (.lst ([V.ref t1, .ref t2, .ref t3, .ref t4, .ref t5].take (3 + z)))
    have b89 : But d H5 H9 := (b6.trans b7).trans ((but_sm s78).trans b9)
    have hp9 := b89.get npd hp5
    have lj : (ys0.take j).length = (l0.take j).length := by rw [DpAll.len hy5, encB_map, List.length_map]
    have cl1 := cB_len (l0.take j)
    refine ⟨_, rfl, s1, p, _, _, rfl, rfl, upd_same, s10 _ _ hp9, ?_, fun p2 hp2 => ?_⟩
    · exact Nat.le_of_lt (small1000 (by rw [List.length_take]; omega))
    have s11 := smNew s10 hp2 (.lst ([V.ref t1, .ref t2, .ref t3, .ref t4, .ref t5].take (3 + z) ++ ys0.take j))
    have b09 := b05.trans b89
    obtain ⟨mo1, mo2, mo3, mo4, mo5⟩ := more_ok (kw _ (List.getElem_mem hi1')) (kw _ (List.getElem_mem hi2')) (List.getElem_mem hi1') (List.getElem_mem hi2') (3 + z)
    refine ⟨p2, (moreS ks[i1] ks[i2]).take (3 + z) ++ l0.take j, _, _, _, _, d9.keep s11, b09.trans (but_sm s11), s11 _ _ (dk_but b89 d5.1 hva5), gro_but b09 d9.1.ne p2 (s10.free hp2), upd_same, ?_, ?_, ?_, ?_, ?_, ?_, rfl⟩
    · rw [encB_app, encB_take]
      exact DpAll.app (DpAll.take _ (DpAll.keep ((nw_but b9 d0.1.ne).trans ((nw_keep s10).trans (nwDel2 (smNew1 hp2 _) hp2))) hmore)) (DpAll.keep ((nw_but b89 d0.1.ne).trans ((nw_keep s10).trans (nwDel2 (smNew1 hp2 _) hp2))) hy5)
    · rw [wB_app, mo1, wB_take wl0 j]; rfl
    · rw [kB_app, mo2, kB_take kl0 j]; rfl
    · rw [dB_app1, mo3]
      have := dB_le (l := l0) (m := j)
      omega
    · rw [cB_app]; omega
    · rw [vB_app, mo5, vB_take vl0 j]; rfl
  · rintro σ H6 ⟨bl, l, ys, v4, v5, v6, d6, b6, hva6, nbl, hbl, hys, wl, kl, dl, cl, vl, rfl⟩
    have nbd : bl ≠ d := fun z => d0.1.ne (by rw [← z]; exact nbl)
    refine ⟨_, rfl, _, rfl, _, rfl, _, rfl, d, sc, va, vm, 3, rfl, rfl, rfl, by omega, d6, hva6, ov, fun ch cv gs H7 b7 d7 nch hch pch lch => ?_⟩
    have g06 := gro_but b6 d6.1.ne
    refine ⟨(by show 3 ≤ sizeLine; decide), fun r hr => ?_⟩
    have b07 := b6.trans b7
    have e8 := smNew1 hr (.lst [.ref va, .ref bl, .ref ch])
    refine q r vm l gs _ (b07.trans (but_sm e8)) (d7.keep e8) (gro_but b07 d7.1.ne r hr) ?_ fun va' bl' cl' ys' h' hb' => by
      rw [upd_same] at h'
      cases h'
      have hbr : bl ≠ r := ne_of_none (b7.get nbd hbl) hr
      have hcr : ch ≠ r := ne_of_none hch hr
      rw [upd_ne hbr, b7.get nbd hbl] at hb'
      cases hb'
      refine ⟨ne_of_none hbl nch, Ne.symm hbr, Ne.symm hcr, vl, DpAll.keep (fun b u hb => ?_) hys⟩
      have bb : b ≠ bl := fun z => by rw [z, del_same] at hb; cases hb
      rw [del_ne bb] at hb
      obtain ⟨h0, h6⟩ := nw_some hb
      rw [del_ne (ne_of_none h6 nch), del_ne bb]
      exact ((nw_but b7 d0.1.ne).trans (nw_keep e8)) b u hb
    have new : ∀ {c o}, H c = none → H7 c = some o → nw H (upd H7 r (.lst [.ref va, .ref bl, .ref ch])) c = some o := fun hn ho => by
      rw [nw_new hn]
      exact e8 _ _ ho
    refine ⟨⟨va, bl, ch, ys, cv, ?_, new nva (dk_but b7 d6.1 hva6), new nbl (b7.get nbd hbl), ?_, new (g06 _ nch) hch, paired_mono pch fun _ _ z => new (g06 _ z.2.1) z.1⟩, ov, ?_, lch, wl, kB_mono kin l kl, dl, cl⟩
    · rw [nw_new (gro_but b07 d7.1.ne r hr)]
      exact upd_same
    · exact DpAll.keep ((del_sm _ _).trans ((nw_but b7 d0.1.ne).trans (nw_keep e8))) hys
    · intro g hg
      obtain ⟨_, _, z⟩ := paired_mem pch g hg
      exact z.2.2
theorem c_law_case (T : Top w K mg) : Cal P w K mg base CX0 8 "_law_case" (spCase K) := (c_law_caseN T).imp fun vs H Q E h => by
  match vs, h with
  | [x], h =>
  obtain ⟨d, sc, e, da, q⟩ := h
  exact ⟨d, sc, e, da, fun r vm l gs H' b d' nr ca _ => q r vm l gs H' b d' nr ca⟩
end
end RM

set_option Elab.async false
set_option linter.all false
set_option maxRecDepth 100000
set_option maxHeartbeats 2000000
namespace RM
open PySem PySem.Spec PyProof.Rows L2
theorem call_tuple_of' {X : Cx} {K : PySem.W.Frag} (hK : X.K = K) : CallR X (.type "tuple") (fun xs H Q => ∃ p ys, xs = [.ref p] ∧ ((SqL K H p ys ∧ ∀ l, H l = none → Q (.ref l) (upd H l (.tup ys))) ∨ (SqT K H p ys ∧ Q (.ref p) H))) := by subst hK; exact call_tuple_of
theorem call_list_of' {X : Cx} {K : PySem.W.Frag} (hK : X.K = K) : CallR X (.type "list") (fun xs H Q => ∃ p ys, xs = [.ref p] ∧ (SqL K H p ys ∨ SqT K H p ys) ∧ ∀ l, H l = none → Q (.ref l) (upd H l (.lst ys))) := by subst hK; exact call_list_of
theorem cr_sortV {X : Cx} {B : Int} : CallR X (.builtin "sorted") (fun vs H Q => ∃ d, 1 ≤ d ∧ rSortU X.K d B vs H Q) := by
  rintro pins s σ H xs us Q I r ⟨d, hd, h⟩
  exact cr_sortT hd pins s σ H xs us Q I r h
theorem pi_list' {X : Cx} {K : PySem.W.Frag} {tg l : Expr} {tl : TE} (hK : X.K = K) (hl : PE X l tl) : PI X tg l (iList K tl) := by subst hK; exact pi_list hl
end RM

set_option Elab.async false
set_option linter.all false
set_option maxRecDepth 100000
set_option maxHeartbeats 4000000
set_option pp.maxSteps 600
set_option pp.deepTerms false
/-! the law's own free names -/
namespace RM
open PySem PySem.Spec PyProof.Rows L2
theorem vnB_app : ∀ l m : List Stm, vnB (l ++ m) = vnB l ++ vnB m
  | [], m => by simp [vnB]
  | s :: r, m => by rw [List.cons_append, vnB, vnB, vnB_app r m, List.append_assoc]
theorem vnS_eq (s : Stm) : vnS s = s.names ++ (s.bodies.map vnB).flatten := by
  cases s <;> simp [vnS, Stm.names, Stm.bodies]
theorem vn_bodies (bs : List (List Stm)) : vnB bs.flatten = (bs.map vnB).flatten := by
  induction bs with
  | nil => rfl
  | cons b r ih => rw [List.flatten_cons, vnB_app, ih, List.map_cons, List.flatten_cons]
theorem cB_flat (bs : List (List Stm)) : cB bs.flatten = cBs bs := by
  induction bs with
  | nil => rfl
  | cons b r ih => rw [List.flatten_cons, cB_app', ih, cBs]
/-- the texts among items -/
def strsF (ds : List PyData) : List Str := ds.filterMap fun | .str z => some z | _ => none
theorem flats_names (s : Stm) : (∃ v k, s = .read v k ∧ strsF s.flats = [v, k]) ∨ (s.word ≠ "read" ∧ strsF s.flats = s.names) := by
  cases s with
  | read v k => exact .inl ⟨v, k, rfl, rfl⟩
  | set v n => exact .inr ⟨by show ("set" : Str) ≠ "read"; decide, rfl⟩
  | copy v u => exact .inr ⟨by show ("copy" : Str) ≠ "read"; decide, rfl⟩
  | print v => exact .inr ⟨by show ("print" : Str) ≠ "read"; decide, rfl⟩
  | say n => exact .inr ⟨by show ("say" : Str) ≠ "read"; decide, rfl⟩
  | wait => exact .inr ⟨by show ("wait" : Str) ≠ "read"; decide, rfl⟩
  | stop => exact .inr ⟨by show ("stop" : Str) ≠ "read"; decide, rfl⟩
  | ite v n a b => exact .inr ⟨by show ("if" : Str) ≠ "read"; decide, rfl⟩
  | same v u a b => exact .inr ⟨by show ("same" : Str) ≠ "read"; decide, rfl⟩
  | rep n a => exact .inr ⟨by show ("repeat" : Str) ≠ "read"; decide, rfl⟩
theorem names_two (s : Stm) : s.names.length ≤ 2 ∧ s.flats.length ≤ 2 := by cases s <;> simp [Stm.names, Stm.flats]
theorem encB_flat (fl : Bool) (bs : List (List Stm)) : encB fl bs.flatten = (bs.map (encB fl)).flatten := by
  induction bs with
  | nil => rfl
  | cons b r ih => rw [List.flatten_cons, encB_app, ih, List.map_cons, List.flatten_cons]
/-- read, then the key is taken out: its variable is left -/
theorem erase_key {U : List Str} {v k z : Str} : z ∈ (U ++ [v, k]).erase k ↔ z ∈ U ∨ z = v := by
  have p : ((U ++ [v, k]).erase k).Perm (U ++ [v]) := by
    have h1 : (U ++ [v, k]).Perm (k :: (U ++ [v])) := by
      rw [show U ++ [v, k] = (U ++ [v]) ++ [k] by rw [List.append_assoc]; rfl]
      exact List.perm_append_singleton k (U ++ [v])
    have h2 := h1.erase k
    rwa [List.erase_cons_head] at h2
  rw [p.mem_iff, List.mem_append, List.mem_singleton]
section
variable {P : Program} {w : World} {K : PySem.W.Frag} {mg : Str → Option Value} {base : Heap}
def spLFree (K : PySem.W.Frag) : Sp := fun vs H Q _ => match vs with
  | [x, y] => ∃ r vm l gs, ∃ many : Nat, x = .ref r ∧ y = .int many ∧ CaseAt K H r vm l gs ∧ vB l = true ∧ many ≤ 20 ∧
    ∀ p H', Same H H' → H p = none → H' p = some (.lst (((freeL l).take many).map V.str)) → Q (.ref p) H'
  | _ => False
theorem sc_law_free : FnScope ["_law_case_here", "_law_many", "_law_used", "_law_left", "_law_one", "_law_item", "_law_letter"] ["_law_case_here", "_law_many"] (defScope s_law_free) := ⟨rfl, rfl, rfl, by decide +kernel, rfl, by decide +kernel, by decide +kernel⟩
theorem c_law_free (T : Top w K mg) : Cal P w K mg base CX0 2 "_law_free" (spLFree K) := by
  refine cal_0 (f_law_free T) (g_law_free T) sc_law_free (fun _ _ _ _ _ _ us hl => match us, hl with | [_, _], _ => rfl) (fun vs H Q E h => match vs, h with | [_, _], _ => rfl) (fun cdv A outer s H vs Q E hr h => ?_)
  match vs, h with
  | [x, y], h =>
  obtain ⟨r, vm, l, gs, many, rfl, rfl, ca, vl, hm, q⟩ := h
  obtain ⟨va, bl, cl, ys, cv, h1, h2, h3, h4, h5, h6⟩ := ca.at_
  have lc := ca.cl
  have l26 := letters_len
  refine ⟨_, (pss_cons (ps_set (i := 2) sc_law_free.nd rfl (Or.inr rfl) (pe_lst pa_nil))
    (pss_cons (ps_set (i := 3) sc_law_free.nd rfl (Or.inl rfl) (pct (z_list T) call_list_of boot_list (pa_cons (pe_ix ix_list (pv 0) pe_int (fun _ _ => rfl)) pa_nil)))
    (pss_cons (ps_while PassesOwn.never (pt_cmpR op_gt (pcb (z_len T) call_len_seq boot_len (pa_cons (pv 3) pa_nil)) pe_int (nomark _))
      (pss_cons (ps_set (i := 4) sc_law_free.nd rfl (Or.inl rfl) (pe_bm0 PySem.F.plainAttrs_list PySem.F.slot_list_pop PySem.F.type_list_pop mt_pop (pv 3)))
    (pss_cons (ps_for PassesOwn.never rfl (pi_seqA (pe_slice sl_tup (pv 4) (po_some pe_int) po_none)) (pg_name (i := 5) sc_law_free.nd rfl (Or.inl rfl))
      (pss_cons (ps_mid (ps_if (pt_val (pcb (z_isinstance T) call_isi boot_isinstance (pa_cons (pv 5) (pa_cons (pty (z_str T) boot_str) pa_nil))))
      (pss_one (ps_expr (pe_bm PySem.F.plainAttrs_list PySem.F.slot_list_append PySem.F.type_list_append mt_append (pv 2) (pa_cons (pv 5) pa_nil))))
      pss_nil))
    (pss_one (ps_if (pt_val (pcb (z_isinstance T) call_isiT boot_isinstance (pa_cons (pv 5) (pa_cons (pe_tup (pa_cons (pty (z_list T) boot_list) (pa_cons (pty (z_tuple T) boot_tuple) pa_nil))) pa_nil))))
      (pss_one (ps_expr (pe_bm PySem.F.plainAttrs_list PySem.F.slot_list_extend PySem.F.type_list_extend mt_extA (pv 3) (pa_cons (pv 5) pa_nil))))
      pss_nil))))
    (pss_one (ps_mid (ps_if (pt_cmpR op_eq (pe_ix ix_tup (pv 4) pe_int (fun _ _ => rfl)) pe_str (nomark _))
      (pss_one (ps_expr (pe_bm PySem.F.plainAttrs_list PySem.F.slot_list_remove PySem.F.type_list_remove mt_removeT (pv 2) (pa_cons (pe_ix ix_tup (pv 4) pe_int (fun _ _ => rfl)) pa_nil))))
      pss_nil))))))
    (pss_one (ps_ret (pe_slice sl_list (pe_lc (own := [("_law_letter", 6)]) rfl sc_law_free.nd (pi_str pe_str) (blkOk_by (own := [("_law_letter", 6)]) (N := ["_law_case_here", "_law_many", "_law_used", "_law_left", "_law_one", "_law_item", "_law_letter"]) (sc := defScope s_law_free) (by decide +kernel)) (fun _ _ _ _ _ => (pg_name (i := 6) sc_law_free.nd rfl (Or.inl rfl) (Or.inr rfl))) (fun _ _ _ _ _ => (pts_one (pt_cmpR (op_notIn_seq' (K := K) rfl) (pv 6) (pv 2) rfl))) (fun _ _ _ _ _ => (pv 6))) po_none (po_some (pv 1)))))))), ?_⟩
  refine ⟨(by show 0 ≤ sizeLine; decide), fun us hus => ?_⟩
  have s1 := smNew1 hus (.lst [])
  refine ⟨_, rfl, r, _, _, .ref bl, rfl, rfl, SqL.of (s1 _ _ h1), at1, bl, _, rfl, .inl (SqL.of (s1 _ _ h3)), fun lf hlf => ?_⟩
  have s2 := s1.trans (smNew1 hlf (.lst ys))
  have ul : us ≠ lf := ne_of_none upd_same hlf
  have nlf : H lf = none := s1.free hlf
  refine ⟨fun m σ H' => ∃ (L : List Stm) (xs : List V) (U : List Str) (v4 v5 : Option V), m = cB L ∧ Same H H' ∧ H' lf = some (.lst xs) ∧ DpAll K H xs (encB true L) ∧ H' us = some (.lst (U.map V.str)) ∧ U.length + 4 * cB L ≤ 4 * cB l ∧
      (∀ z, (z ∈ U ∨ z ∈ vnB L) ↔ z ∈ namesOf l) ∧ σ = [some (.ref r), some (.int many), some (.ref us), some (.ref lf), v4, v5, none],
    ⟨cB l, l, ys, [], _, _, rfl, s2, upd_same, h4, by rw [upd_ne ul]; exact upd_same, by show 0 + _ ≤ _; omega, fun z => by unfold namesOf; rw [← vnB_names]; exact ⟨fun h => h.elim (fun h => by cases h) id, .inr⟩, rfl⟩, ?_⟩
  rintro m σ H1 ⟨L, xs, U, v4, v5, rfl, e1, hlf1, dp1, hus1, lU, mem, rfl⟩
  have lxs : xs.length = L.length := by rw [DpAll.len dp1, encB_map, List.length_map]
  have lL := cB_len L
  refine ⟨_, rfl, lf, _, rfl, .inl (SqL.of hlf1), _, _, rfl, rfl, _, rfl, ifB (fun hc => ?_) (fun hc => ?_)⟩
  · have pos : 0 < xs.length := by
      have := of_decide_eq_true hc
      omega
    obtain ⟨y, hy⟩ : ∃ y, xs[xs.length - 1]? = some y := ⟨_, List.getElem?_eq_getElem (by omega)⟩
    obtain ⟨d, hd1, hd2⟩ := DpAll.getV dp1 hy
    obtain ⟨st, hst, rfl⟩ := encB_get hd1
    have eL : L = L.dropLast ++ [st] := by
      have hst2 := hst
      rw [lxs] at hst2
      have h := take_more hst2
      rw [show L.length - 1 + 1 = L.length by omega, List.take_length] at h
      rw [List.dropLast_eq_take]
      exact h
    have cL : cB L = cB L.dropLast + cS st := by
      conv => lhs; rw [eL, cB_app']
      rw [cB, cB]
      omega
    have vL : vnB L = vnB L.dropLast ++ vnS st := by
      conv => lhs; rw [eL, vnB_app]
      rw [vnB, vnB, List.append_nil]
    have cSe := cS_eq st
    have dpD : DpAll K H xs.dropLast (encB true L.dropLast) := by
      rw [List.dropLast_eq_take, List.dropLast_eq_take, encB_map, List.map_take, ← encB_map, lxs]
      exact DpAll.take _ dp1
    obtain ⟨sa, sxs, rfl, hsa, hsx⟩ := shape_of hd2
    have hl : sxs.length = st.flats.length + st.bodies.length := by rw [DpAll.len hsx, List.length_append, List.length_map]
    obtain ⟨nt1, nt2⟩ := names_two st
    have lb := form_five st
    have lf2 := form_len st
    refine ⟨fun σ' H' => ∃ (L' : List Stm) (xs : List V) (U : List Str) (v4 v5 : Option V), cB L' < cB L ∧ Same H H' ∧ H' lf = some (.lst xs) ∧ DpAll K H xs (encB true L') ∧ H' us = some (.lst (U.map V.str)) ∧ U.length + 4 * cB L' ≤ 4 * cB l ∧
      (∀ z, (z ∈ U ∨ z ∈ vnB L') ↔ z ∈ namesOf l) ∧ σ' = [some (.ref r), some (.int many), some (.ref us), some (.ref lf), v4, v5, none],
      fun σ' H' ⟨L', xs, U, v4, v5, lt, z⟩ => ⟨cB L', lt, L', xs, U, v4, v5, rfl, z⟩, ?_⟩
    refine ⟨_, rfl, .inl ⟨rfl, _, SqL.of hlf1⟩, lf, xs, _, rfl, rfl, hlf1, hy, ?_⟩
    have e2 := smOut e1 nlf (.lst xs.dropLast)
    have hus2 : (upd H1 lf (.lst xs.dropLast)) us = some (.lst (U.map V.str)) := by rw [upd_ne ul]; exact hus1
    refine ⟨_, rfl, _, rfl, _, _, rfl, smT e2 hsa, cut_not, fun tt htt => ?_⟩
    rw [cut_tail]
    have e3 := smNew e2 htt (.tup sxs)
    have ntt : H tt = none := e2.free htt
    refine seqA_of (.inr (SqT.of (upd_same : (upd (fun b => if b = tt then none else H b) tt (.tup sxs)) tt = _))) (H := upd (upd H1 lf (.lst xs.dropLast)) tt (.tup sxs)) (fun b u hb => ?_) fun J wk => ?_
    · by_cases z : b = tt
      · rw [z, upd_same] at hb ⊢
        exact hb
      · rw [upd_ne z] at hb
        rw [if_neg z] at hb
        exact e3 _ _ hb
    have G0 : ∀ {H' : Hp}, Same H H' → H' tt = some (.tup sxs) → Same (upd (fun b => if b = tt then none else H b) tt (.tup sxs)) H' := fun e h b u hb => by
      by_cases z : b = tt
      · rw [z, upd_same] at hb
        rw [z, ← hb]
        exact h
      · rw [upd_ne z, if_neg z] at hb
        exact e _ _ hb
    refine for_it wk (fun j σ H' => Same H H' ∧ H' tt = some (.tup sxs) ∧ (∃ zs, H' lf = some (.lst (xs.dropLast ++ zs)) ∧ DpAll K H zs (encB true (st.bodies.take (j - st.flats.length)).flatten)) ∧
        H' us = some (.lst ((U ++ strsF (st.flats.take j)).map V.str)) ∧ ∃ v5, σ = [some (.ref r), some (.int many), some (.ref us), some (.ref lf), some (.ref sa), v5, none])
      ⟨e3, upd_same, ⟨[], ?_, by rw [Nat.zero_sub, List.take_zero]; exact .nil⟩, ?_, _, rfl⟩ (fun j σ H' _ h => G0 h.1 h.2.1) ?_ ?_
    · rw [List.append_nil, upd_ne (fun z => by rw [← z, upd_same] at htt; cases htt), upd_same]
    · rw [List.take_zero, show strsF [] = [] from rfl, List.append_nil, upd_ne (fun z => by rw [← z, hus2] at htt; cases htt)]
      exact hus2
    · rintro j yv σ H3 H4 hj ⟨e4, htt4, ⟨zs, hlf4, dpz⟩, hus4, v5', rfl⟩ ⟨rfl, hyv⟩
      have nett : tt ≠ lf := fun z => by rw [z, hlf4] at htt4; cases htt4
      have neut : tt ≠ us := fun z => by rw [z, hus4] at htt4; cases htt4
      obtain ⟨d, hd3, hd4⟩ := DpAll.getV hsx hyv
      have lzs : zs.length ≤ cBs st.bodies := by
        have h1 : zs.length = (st.bodies.take (j - st.flats.length)).flatten.length := by rw [DpAll.len dpz, encB_map, List.length_map]
        have h2 := cB_len (st.bodies.take (j - st.flats.length)).flatten
        have h3 : cB (st.bodies.take (j - st.flats.length)).flatten ≤ cB st.bodies.flatten := by
          conv => rhs; rw [← List.take_append_drop (j - st.flats.length) st.bodies, List.flatten_append, cB_app']
          omega
        rw [cB_flat st.bodies] at h3
        omega
      have lst : (strsF (st.flats.take j)).length ≤ 2 := Nat.le_trans (List.length_filterMap_le ..) (by rw [List.length_take]; omega)
      rcases item_at st _ hd3 with ⟨hf, hflat⟩ | ⟨hf, bd, hbm, hba, rfl⟩
      · rw [List.getElem?_append_left hf] at hd3
        have tkF : st.flats.take (j + 1) = st.flats.take j ++ [d] := take_more hd3
        have j0 : j + 1 - st.flats.length = j - st.flats.length := by omega
        rcases hflat with ⟨z, rfl⟩ | ⟨n, rfl⟩
        · obtain rfl := Dp.str_inv hd4
          have eS : strsF (st.flats.take (j + 1)) = strsF (st.flats.take j) ++ [z] := by rw [tkF]; unfold strsF; rw [List.filterMap_append]; rfl
          refine ⟨fun σ' H' => Same H H' ∧ H' tt = some (.tup sxs) ∧ H' lf = some (.lst (xs.dropLast ++ zs)) ∧ H' us = some (.lst ((U ++ strsF (st.flats.take (j + 1))).map V.str)) ∧ σ' = [some (.ref r), some (.int many), some (.ref us), some (.ref lf), some (.ref sa), some (.str z), none], ?_, ?_⟩
          · refine ⟨_, rfl, _, _, _, _, true, rfl, .ty _, .base (.str _), kit_ty (by decide +kernel), _, rfl, ifT rfl ?_⟩
            refine ⟨_, rfl, .inl ⟨rfl, _, SqL.of hus4⟩, _, rfl, us, _, _, rfl, rfl, hus4, small1000 (by rw [List.length_map, List.length_append]; omega), ?_⟩
            refine ⟨smOut e4 hus _, by rw [upd_ne neut]; exact htt4, by rw [upd_ne (Ne.symm ul)]; exact hlf4, ?_, rfl⟩
            rw [upd_same, eS, ← List.append_assoc, List.map_append (l₁ := U ++ _)]
            rfl
          rintro σ' H5 ⟨e5, htt5, hlf5, hus5, rfl⟩
          refine ⟨_, rfl, (by show 2 ≤ sizeLine; decide), fun p2 hp2 => ?_⟩
          have s6 := smNew1 hp2 (.tup [.ty "list", .ty "tuple"])
          obtain ⟨ty, ht, hk2⟩ := ty_flat (K := K) (H := upd H5 p2 (.tup [.ty "list", .ty "tuple"])) (x := .str z) (d := .str z) (.str z) (.inl ⟨z, rfl⟩)
          refine ⟨_, p2, _, ty, _, false, rfl, upd_same, .cons (.ty _) (.cons (.ty _) .nil), ht, hk2, _, rfl, ifF rfl ?_⟩
          exact ⟨e5.trans s6, s6 _ _ htt5, ⟨zs, s6 _ _ hlf5, by rw [j0]; exact dpz⟩, s6 _ _ hus5, _, rfl⟩
        · obtain rfl := Dp.int_inv hd4
          have eS : strsF (st.flats.take (j + 1)) = strsF (st.flats.take j) := by rw [tkF]; unfold strsF; rw [List.filterMap_append]; exact List.append_nil _
          refine ⟨fun σ' H' => Same H H' ∧ H' tt = some (.tup sxs) ∧ H' lf = some (.lst (xs.dropLast ++ zs)) ∧ H' us = some (.lst ((U ++ strsF (st.flats.take (j + 1))).map V.str)) ∧ σ' = [some (.ref r), some (.int many), some (.ref us), some (.ref lf), some (.ref sa), some (.int n), none], ?_, ?_⟩
          · refine ⟨_, rfl, _, _, _, _, false, rfl, .ty _, .base (.int _), kit_ty (by decide +kernel), _, rfl, ifF rfl ?_⟩
            exact ⟨e4, htt4, hlf4, by rw [eS]; exact hus4, rfl⟩
          rintro σ' H5 ⟨e5, htt5, hlf5, hus5, rfl⟩
          refine ⟨_, rfl, (by show 2 ≤ sizeLine; decide), fun p2 hp2 => ?_⟩
          have s6 := smNew1 hp2 (.tup [.ty "list", .ty "tuple"])
          obtain ⟨ty, ht, hk2⟩ := ty_flat (K := K) (H := upd H5 p2 (.tup [.ty "list", .ty "tuple"])) (x := .int n) (d := .int n) (.int n) (.inr ⟨n, rfl⟩)
          refine ⟨_, p2, _, ty, _, false, rfl, upd_same, .cons (.ty _) (.cons (.ty _) .nil), ht, hk2, _, rfl, ifF rfl ?_⟩
          exact ⟨e5.trans s6, s6 _ _ htt5, ⟨zs, s6 _ _ hlf5, by rw [j0]; exact dpz⟩, s6 _ _ hus5, _, rfl⟩
      · obtain ⟨ba, bxs, rfl, hb1, hb2⟩ := Dp.lst_inv hd4
        have eS : strsF (st.flats.take (j + 1)) = strsF (st.flats.take j) := by rw [List.take_of_length_le (by omega), List.take_of_length_le (by omega)]
        refine ⟨fun σ' H' => Same H H' ∧ H' tt = some (.tup sxs) ∧ H' lf = some (.lst (xs.dropLast ++ zs)) ∧ H' us = some (.lst ((U ++ strsF (st.flats.take (j + 1))).map V.str)) ∧ σ' = [some (.ref r), some (.int many), some (.ref us), some (.ref lf), some (.ref sa), some (.ref ba), none], ?_, ?_⟩
        · refine ⟨_, rfl, _, _, _, _, false, rfl, .ty _, tyL (e4.seq hb1), kit_ty (by decide +kernel), _, rfl, ifF rfl ?_⟩
          exact ⟨e4, htt4, hlf4, by rw [eS]; exact hus4, rfl⟩
        rintro σ' H5 ⟨e5, htt5, hlf5, hus5, rfl⟩
        refine ⟨_, rfl, (by show 2 ≤ sizeLine; decide), fun p2 hp2 => ?_⟩
        have s6 := smNew1 hp2 (.tup [.ty "list", .ty "tuple"])
        have e6 := e5.trans s6
        obtain ⟨ty, ht, hk2⟩ := ty_seq (K := K) (H0 := H) (.inl hb1) e6
        refine ⟨_, p2, _, ty, _, true, rfl, upd_same, .cons (.ty _) (.cons (.ty _) .nil), ht, hk2, _, rfl, ifT rfl ?_⟩
        have lbx : bxs.length ≤ 1000 := by
          have h1 : bxs.length = bd.length := by rw [DpAll.len hb2, encB_map, List.length_map]
          have h2 := cB_len bd
          have h3 := cS_mem hbm
          omega
        refine ⟨_, rfl, .inl ⟨rfl, _, SqL.of (s6 _ _ hlf5)⟩, _, rfl, lf, ba, _, bxs, rfl, rfl, s6 _ _ hlf5, e6.seq hb1, ?_, ?_⟩
        · have : xs.dropLast.length ≤ xs.length := by rw [List.length_dropLast]; omega
          have h3 := cS_mem hbm
          have h1 : bxs.length = bd.length := by rw [DpAll.len hb2, encB_map, List.length_map]
          have h2 := cB_len bd
          exact Nat.le_of_lt (small1000 (by rw [List.length_append]; omega))
        · refine ⟨smOut e6 nlf _, by rw [upd_ne nett]; exact s6 _ _ htt5, ⟨zs ++ bxs, by rw [upd_same, List.append_assoc], ?_⟩, by rw [upd_ne ul]; exact s6 _ _ hus5, _, rfl⟩
          rw [show j + 1 - st.flats.length = j - st.flats.length + 1 by omega, take_more hba, List.flatten_append, encB_app]
          refine DpAll.app dpz ?_
          rw [List.flatten_singleton]
          exact hb2
    rintro σ3 H3 ⟨e4, htt4, ⟨zs, hlf4, dpz⟩, hus4, v5', rfl⟩
    rw [hl, Nat.add_sub_cancel_left, List.take_length] at dpz
    rw [hl, List.take_of_length_le (by omega)] at hus4
    have cF := cB_flat st.bodies
    have dpN : DpAll K H (xs.dropLast ++ zs) (encB true (L.dropLast ++ st.bodies.flatten)) := by rw [encB_app]; exact DpAll.app dpD dpz
    have cN : cB (L.dropLast ++ st.bodies.flatten) + 1 = cB L := by rw [cB_app', cF, cL, cSe]; omega
    have lS2 : (strsF st.flats).length ≤ 2 := Nat.le_trans (List.length_filterMap_le ..) nt2
    have vN : ∀ z, z ∈ vnB (L.dropLast ++ st.bodies.flatten) ↔ z ∈ vnB L.dropLast ∨ z ∈ (st.bodies.map vnB).flatten := fun z => by rw [vnB_app, vn_bodies, List.mem_append]
    have vL' : ∀ z, z ∈ vnB L ↔ z ∈ vnB L.dropLast ∨ z ∈ st.names ∨ z ∈ (st.bodies.map vnB).flatten := fun z => by rw [vL, vnS_eq, List.mem_append, List.mem_append]
    refine ⟨fun σ' H' => ∃ U' : List Str, Same H H' ∧ H' lf = some (.lst (xs.dropLast ++ zs)) ∧ H' us = some (.lst (U'.map V.str)) ∧ U'.length ≤ U.length + 2 ∧ (∀ z, z ∈ U' ↔ z ∈ U ∨ z ∈ st.names) ∧ σ' = [some (.ref r), some (.int many), some (.ref us), some (.ref lf), some (.ref sa), v5', none], ?_, ?_⟩
    · refine ⟨_, rfl, _, _, _, _, rfl, rfl, smT e4 hsa, at0, rfl, _, rfl, ?_⟩
      rcases flats_names st with ⟨v, k, rfl, es⟩ | ⟨nw, es⟩
      · refine ifT (by rfl) ?_
        obtain ⟨v1, r3, rfl, g1, g2⟩ := DpAll.cons_inv hsx
        obtain ⟨v2, r4, rfl, g3, g4⟩ := DpAll.cons_inv g2
        obtain rfl := Dp.str_inv g3
        rw [es] at hus4
        refine ⟨_, rfl, .inl ⟨rfl, _, SqL.of hus4⟩, _, rfl, _, _, _, _, rfl, rfl, smT e4 hsa, at2, us, U ++ [v, k], k, rfl, rfl, hus4, by simp, ?_⟩
        refine ⟨(U ++ [v, k]).erase k, smOut e4 hus _, by rw [upd_ne (Ne.symm ul)]; exact hlf4, upd_same, ?_, fun z => ?_, rfl⟩
        · have := List.length_erase_le (a := k) (l := U ++ [v, k])
          rw [List.length_append] at this
          exact this
        · rw [erase_key]
          show _ ↔ z ∈ U ∨ z ∈ [v]
          rw [List.mem_singleton]
      · refine ifF (decide_eq_false fun z => nw (V.str.inj z)) ?_
        rw [es] at hus4
        exact ⟨U ++ st.names, e4, hlf4, hus4, by rw [List.length_append]; omega, fun z => List.mem_append, rfl⟩
    rintro σ4 H4 ⟨U', e5, hlf5, hus5, lU', memU', rfl⟩
    refine ⟨L.dropLast ++ st.bodies.flatten, xs.dropLast ++ zs, U', _, _, by omega, e5, hlf5, dpN, hus5, by omega, fun z => ?_, rfl⟩
    rw [← mem z, memU', vN, vL']
    constructor
    · rintro ((h | h) | (h | h))
      · exact .inl h
      · exact .inr (.inr (.inl h))
      · exact .inr (.inl h)
      · exact .inr (.inr (.inr h))
    · rintro (h | h | h | h)
      · exact .inl (.inl h)
      · exact .inr (.inl h)
      · exact .inl (.inr h)
      · exact .inr (.inr h)
  · have nil : L = [] := by
      have := of_decide_eq_false hc
      exact List.length_eq_zero_iff.mp (by omega)
    subst nil
    have memU : ∀ z, z ∈ U ↔ z ∈ namesOf l := fun z => by rw [← mem z]; exact ⟨.inl, fun h => h.elim id fun h => by cases h⟩
    have memV : ∀ z : Str, inV (.str z) (U.map V.str) = decide (z ∈ namesOf l) := fun z => by
      rw [inV_strs]
      have := memU z
      simp only [this]
    refine ⟨_, rfl, fun D nD => ?_⟩
    refine lc_opt walk_str (fun (z : Str) y _ => y = .str z) (fun i => (lettersS[i]?).bind fun z => if z ∈ namesOf l then none else some z) nD (small1000 (by rw [l26.1]; omega)) (fun _ _ => trivial) (fun _ _ _ _ h _ => h) (fun _ _ _ _ _ h _ => h) ?_ ?_
    · rintro i x H2 H3 N hi e ⟨rfl, c, hc', rfl⟩ hk hno
      have hz := letter_at hc'
      refine ⟨rfl, _, rfl, _, rfl, us, _, rfl, .inl (SqL.of (e _ _ hus1)), rfl, flat_strs U, _, rfl, ?_⟩
      show if (!inV (V.str ⟨#[c]⟩) (U.map V.str)) = true then _ else _
      rw [memV]
      by_cases hn : (⟨#[c]⟩ : Str) ∈ namesOf l
      · refine ifF (by rw [decide_eq_true hn]; rfl) ?_
        exact hno (by rw [hz]; exact if_pos hn) _ (Same.refl _)
      · refine ifT (by rw [decide_eq_false hn]; rfl) ?_
        exact ⟨_, rfl, hk _ _ _ (by rw [hz]; exact if_neg hn) (Same.refl _) rfl⟩
    intro H2 zs e hD hp'
    have eq1 : (List.range ("abcdefghijklmnopqrstuvwxyz" : Str).cps.size).filterMap (fun i => (lettersS[i]?).bind fun z => if z ∈ namesOf l then none else some z) = freeL l := by
      rw [l26.1, ← l26.2, filterMap_at2]
      unfold freeL
      generalize lettersS = L
      induction L with
      | nil => rfl
      | cons k r ih =>
        rw [List.filterMap_cons, List.filter_cons]
        by_cases hm : k ∈ namesOf l
        · rw [if_pos hm, if_neg (by simpa using hm), ih]
        · rw [if_neg hm, if_pos (by simpa using hm), ih]
    rw [eq1] at hp'
    have hys := paired_eq hp'
    subst hys
    have fl := free_len vl
    refine ⟨_, rfl, (many : Int), rfl, D, _, rfl, SqL.of hD, fun p hp => ?_⟩
    rw [cutL_pre _ _ (by rw [List.length_map]; omega)]
    have e2 := e1.trans e
    refine q p _ (smNew e2 hp _) (e2.free hp) ?_
    rw [upd_same, List.map_take]
end
end RM

set_option Elab.async false
set_option linter.all false
set_option maxRecDepth 100000
set_option maxHeartbeats 4000000
set_option pp.maxSteps 600
set_option pp.deepTerms false
/-! replaced, where no one read is meant -/
namespace RM
open PySem PySem.Spec PyProof.Rows L2
/-- a dict from keys to variables -/
def nK (nm : NM) : List (Key × V) := nm.map fun q => (Sum.inr q.1, .str q.2)
theorem nmGet_cons (q : Str × Str) (r : NM) (k : Str) : nmGet (q :: r) k = if q.1 = k then some q.2 else nmGet r k := by
  unfold nmGet
  by_cases e : q.1 = k
  · rw [List.find?_cons_of_pos (by simpa using e), if_pos e]
    rfl
  · rw [List.find?_cons_of_neg (by simpa using e), if_neg e]
theorem valV_nK (nm : NM) (k : Str) : valV (nK nm) (Sum.inr k) = (nmGet nm k).map V.str := by
  induction nm with
  | nil => rfl
  | cons q r ih =>
    rw [nmGet_cons]
    show valV ((Sum.inr q.1, V.str q.2) :: nK r) (Sum.inr k) = _
    by_cases e : q.1 = k
    · rw [if_pos e, valV_pos (show (Sum.inr q.1 : Key) = Sum.inr k by rw [e])]
      rfl
    · rw [if_neg e, valV_neg (fun z => e (Sum.inr.inj z)), ih]
theorem nmGet_none {nm : NM} {k : Str} (h : k ∉ nm.map (·.1)) : nmGet nm k = none := by
  induction nm with
  | nil => rfl
  | cons q r ih =>
    rw [List.map_cons, List.mem_cons, not_or] at h
    rw [nmGet_cons, if_neg (Ne.symm h.1), ih h.2]
theorem putNK {nm : NM} {k x : Str} (h : k ∉ nm.map (·.1)) : putK (nK nm) (Sum.inr k) (.str x) = nK (nm ++ [(k, x)]) := by
  rw [putK_new _ (by rw [valV_nK, nmGet_none h]; rfl)]
  unfold nK
  rw [List.map_append]
  rfl
theorem mergeNK : ∀ (nm acc : NM), ((acc ++ nm).map (·.1)).Nodup → mergeK (nK acc) (nK nm) = nK (acc ++ nm)
  | [], acc, _ => by rw [List.append_nil]; rfl
  | q :: r, acc, nd => by
    have hq : q.1 ∉ acc.map (·.1) := fun h => by
      rw [List.map_append, List.nodup_append] at nd
      exact nd.2.2 _ h _ (by simp) rfl
    show mergeK (putK (nK acc) (Sum.inr q.1) (.str q.2)) (nK r) = _
    rw [putNK hq, mergeNK r (acc ++ [q]) (by rw [List.append_assoc]; exact nd), List.append_assoc]
    rfl
theorem pin_flats (nm : NM) {s : Stm} (h : s.bodies ≠ []) : (pinS nm s).word = s.word ∧ (pinS nm s).flats = s.flats := by
  cases s <;> first | exact absurd rfl h | (rw [pinS]; exact ⟨rfl, rfl⟩)
theorem pin_none (nm : NM) {s : Stm} (h : s.bodies = []) (no : ∀ v k x, s = .read v k → nmGet nm k = some x → False) : pinS nm s = s := by
  cases s with
  | read v k =>
    rw [pinS]
    cases e : nmGet nm k with
    | none => rfl
    | some x => exact (no v k x rfl e).elim
  | ite _ _ a b => cases h
  | same _ _ a b => cases h
  | rep _ a => cases h
  | _ => rw [pinS]
theorem ifBoth {c : Bool} {A B : Prop} (hB : B) (hA : c = true → B → A) : if c = true then A else B := ifB (fun h => hA h hB) fun _ => hB
section
variable {P : Program} {w : World} {K : PySem.W.Frag} {mg : Str → Option Value} {base : Heap}
def spRepl (K : PySem.W.Frag) (n : Nat) : Sp := fun vs H Q _ => match vs with
  | [b, p, y, o] => ∃ (l : List Stm) (pth : List Int) (na : Addr) (nm : NM), Dp K H b (.tuple (encB false l)) ∧ Dp K H p (pathD pth) ∧ y = .ref na ∧ H na = some (.dK (nK nm)) ∧ o = .non ∧ dB l ≤ n ∧ cB l ≤ 1000 ∧ pth.length + 2 * n ≤ 900 ∧
    ∀ v H', Same H H' → Dp K H' v (.tuple (encB false (pinB nm l))) → Q v H'
  | _ => False
theorem sc_replaced : FnScope ["body", "path", "names", "only", "found", "place", "one", "here", "inner", "plain", "turned", "number", "part"] ["body", "path", "names", "only"] (defScope s_replaced) := ⟨rfl, rfl, rfl, by decide +kernel, rfl, by decide +kernel, by decide +kernel⟩
theorem ok_replaced (T : Top w K mg) {n : Nat} (ih : Cal P w K mg base CX0 (n + 2) "replaced" (spRepl K n)) : Cal P w K mg base CX0 (n + 3) "replaced" (spRepl K (n + 1)) := by
  refine cal_0 (f_replaced T) (g_replaced T) sc_replaced (fun _ _ _ _ _ _ us hl => match us, hl with | [_, _, _, _], _ => rfl) (fun vs H Q E h => match vs, h with | [_, _, _, _], _ => rfl) (fun cdv A outer s H vs Q E hr h => ?_)
  match vs, h with
  | [b, p, y, o], h =>
  obtain ⟨l, pth, na, nm, hb, hp, rfl, hna, rfl, hn, hc, hpl, q⟩ := h
  obtain ⟨a, xs, rfl, ha, hx⟩ := Dp.tup_inv hb
  obtain ⟨pa, rfl, hpa⟩ := path_inv hp
  have lx : xs.length = l.length := by rw [DpAll.len hx, encB_map, List.length_map]
  have ll := cB_len l
  refine ⟨_, (pss_cons (ps_set (i := 4) sc_replaced.nd rfl (Or.inl rfl) (pe_lst pa_nil))
    (pss_cons (ps_for PassesOwn.never rfl (pi_enumA (by rfl) (z_enumerate T) (pa_cons (pv 0) pa_nil)) (pg_tup rfl (pgs_cons (pg_name (i := 5) sc_replaced.nd rfl (Or.inl rfl)) (pgs_cons (pg_name (i := 6) sc_replaced.nd rfl (Or.inl rfl)) pgs_nil)))
      (pss_cons (ps_set (i := 7) sc_replaced.nd rfl (Or.inr rfl) (pe_op op_catG (pv 1) (pe_tup (pa_cons (pv 5) pa_nil))))
    (pss_one (ps_if (PW.pt (pw_and (pt_cmpR op_eq (pe_ix ix_tup (pv 6) pe_int (fun _ _ => rfl)) pe_str (nomark _)) (pw_and (pt_cmp (pc_din (hu_of hr) (pe_ix ix_tup (pv 6) pe_int (fun _ _ => rfl)) (pv 2))) (pw_and1 (PW.pt (pw_or (pt_cmp (pc_isN (pv 3)) rfl) (pw_or1 (pt_cmpR (op_eqD (room64 hr)) (pv 3) (pv 7) (nomark _)))))))))
      (pss_one (ps_expr (pe_bm PySem.F.plainAttrs_list PySem.F.slot_list_append PySem.F.type_list_append mt_append (pv 4) (pa_cons (pe_tup (pa_cons pe_str (pa_cons (pe_ix ix_tup (pv 6) pe_int (fun _ _ => rfl)) (pa_cons (pe_dget (hu_of hr) (pv 2) (pe_ix ix_tup (pv 6) pe_int (fun _ _ => rfl)) (fun _ _ => rfl)) pa_nil)))) pa_nil))))
      (pss_one (ps_if (pt_not (pt_truth (pc (c_bodies_of T) hr (pa_cons (pv 6) pa_nil)) (by intro _; rfl)))
      (pss_one (ps_expr (pe_bm PySem.F.plainAttrs_list PySem.F.slot_list_append PySem.F.type_list_append mt_append (pv 4) (pa_cons (pv 6) pa_nil))))
      (pss_cons (ps_set (i := 8) sc_replaced.nd rfl (Or.inl rfl) (pc (c_bodies_of T) hr (pa_cons (pv 6) pa_nil)))
    (pss_cons (ps_set (i := 9) sc_replaced.nd rfl (Or.inl rfl) (pe_slice sl_tup (pv 6) po_none (po_some (pe_op op_sub (pcb (z_len T) call_len_seq boot_len (pa_cons (pv 6) pa_nil)) (pcb (z_len T) call_len_seq boot_len (pa_cons (pv 8) pa_nil))))))
    (pss_cons (ps_setLc (i := 10) (own := [("number", 11), ("part", 12)]) rfl sc_replaced.nd rfl rfl (sw_true rfl rfl rfl (by decide +kernel)) (pi_enumA (by rfl) (z_enumerate T) (pa_cons (pv 8) pa_nil)) (blkOk_by (own := [("number", 11), ("part", 12)]) (N := ["body", "path", "names", "only", "found", "place", "one", "here", "inner", "plain", "turned", "number", "part"]) (sc := defScope s_replaced) (by decide +kernel)) (fun _ _ _ _ _ => (pg_tup' (n := 2) (K := K) rfl rfl (pgs_cons (pg_name (i := 11) sc_replaced.nd rfl (Or.inl rfl) (Or.inr rfl)) (pgs_cons (pg_name (i := 12) sc_replaced.nd rfl (Or.inl rfl) (Or.inr rfl)) pgs_nil)) rfl rfl)) (fun _ _ _ _ _ => pts_nil) (fun _ _ _ _ _ => (pc ih hr (pa_cons (pv 12) (pa_cons (pe_op (op_catG' (K := K) rfl) (pv 7) (pe_tup (pa_cons (pv 11) pa_nil))) (pa_cons (pv 2) (pa_cons (pv 3) pa_nil)))))))
    (pss_one (ps_expr (pe_bm PySem.F.plainAttrs_list PySem.F.slot_list_append PySem.F.type_list_append mt_append (pv 4) (pa_cons (pe_op op_catG (pv 9) (pct (z_tuple T) call_tuple_of boot_tuple (pa_cons (pv 10) pa_nil))) pa_nil)))))))))))))
    (pss_one (ps_ret (pct (z_tuple T) call_tuple_of boot_tuple (pa_cons (pv 4) pa_nil)))))), ?_⟩
  refine ⟨(by show 0 ≤ sizeLine; decide), fun fd nfd => ?_⟩
  have s0 := smNew1 nfd (.lst [])
  refine ⟨_, rfl, ?_⟩
  refine enumA_of (.inr ha) s0 fun J wk => ?_
  refine for_it wk (fun i σ H' => Same H H' ∧ (∃ acc, H' fd = some (.lst acc) ∧ DpAll K H' acc (encB false (pinB nm (l.take i)))) ∧ ∃ v5 v6 v7 v8 v9 v10, σ = [some (.ref a), some (.ref pa), some (.ref na), some .non, some (.ref fd), v5, v6, v7, v8, v9, v10, none, none])
    ⟨s0, ⟨[], upd_same, by rw [List.take_zero]; exact .nil⟩, _, _, _, _, _, _, rfl⟩ (fun i σ H' _ h => h.1) ?_ ?_
  · rintro i x σ H1 H1' hi ⟨s1, ⟨acc, hacc, hdp⟩, v5, v6, v7, v8, v9, v10, rfl⟩ ⟨t, y, z, rfl, nt, rfl, hy, hz⟩
    obtain rfl : V.int (i : Nat) = y := Option.some.inj hy
    obtain ⟨d, hd1, hd2⟩ := DpAll.getV hx hz
    obtain ⟨st, hst, rfl⟩ := encB_get hd1
    have hm : st ∈ l := List.mem_of_getElem? hst
    have dm := dB_mem hm
    have cm := cB_mem hm
    obtain ⟨sa, sxs, rfl, hsa, hsx⟩ := shape_of hd2
    have s2 := smNew1 nt (.tup [.int (i : Nat), .ref sa])
    have s12 := s1.trans s2
    have hacc2 := s2 _ _ hacc
    have hdp2 := DpAll.keep s2 hdp
    obtain ⟨H2, eH2⟩ : ∃ H2, H2 = upd H1 t (.tup [.int (i : Nat), .ref sa]) := ⟨_, rfl⟩
    have ht2 : SqT K H2 t [.int (i : Nat), .ref sa] := by rw [eH2]; exact SqT.of upd_same
    rw [← eH2] at s2 s12 hacc2 hdp2 ⊢
    clear eH2 s2 hacc hdp s1
    refine ⟨t, _, rfl, ht2, rfl, _, _, rfl, _, _, rfl, rfl, ?_⟩
    -- here
    refine ⟨_, rfl, _, rfl, (by show 1 ≤ sizeLine; decide), fun p1 hp1 => ?_⟩
    have s3 := s12.trans (smNew1 hp1 (.tup [.int (i : Nat)]))
    refine path_snoc (smT s3 hpa) (SqT.of upd_same) (Nat.le_of_lt (small1000 (by omega))) fun here H3 s4 hh => ?_
    have e23 := (smNew1 hp1 (.tup [.int (i : Nat)])).trans s4
    have s13 := s3.trans s4
    have hacc3 := e23 _ _ hacc2
    have hdp3 := DpAll.keep e23 hdp2
    have hsa3 := smT s13 hsa
    have hsx3 := DpAll.keep s13 hsx
    have hna3 := s13 _ _ hna
    have lacc : acc.length = i := by rw [DpAll.len hdp2, encB_map, List.length_map, pinB_map, List.length_map, List.length_take]; omega
    -- what is put behind
    have fin : ∀ (H4 : Hp) (x : V) (v8 v9 v10 : Option V), Same H3 H4 → Dp K H4 x (encS false (pinS nm st)) → rAppend (.ref fd) [x] H4 fun _ H5 => (fun σ H' => Same H H' ∧ (∃ acc, H' fd = some (.lst acc) ∧ DpAll K H' acc (encB false (pinB nm (l.take (i + 1))))) ∧ ∃ v5 v6 v7 v8 v9 v10, σ = [some (.ref a), some (.ref pa), some (.ref na), some .non, some (.ref fd), v5, v6, v7, v8, v9, v10, none, none]) [some (.ref a), some (.ref pa), some (.ref na), some .non, some (.ref fd), some (.int (i : Nat)), some (.ref sa), some here, v8, v9, v10, none, none] H5 := fun H4 x v8 v9 v10 e hxd => by
      have hacc4 := e _ _ hacc3
      refine ⟨fd, acc, x, rfl, rfl, hacc4, small1000 (by omega), ?_⟩
      have ts := ts_upd (K := K) (.lst (acc ++ [x])) hacc4 trivial
      refine ⟨smOut (s13.trans e) nfd _, ⟨acc ++ [x], upd_same, ?_⟩, _, _, _, _, _, _, rfl⟩
      have e1 : pinB nm (l.take (i + 1)) = pinB nm (l.take i) ++ [pinS nm st] := by rw [pinB_map, pinB_map, take_more hst, List.map_append]; rfl
      rw [e1, encB_app]
      exact DpAll.app (dps_ts ts (DpAll.keep e hdp3) (noL_encB _)) (.cons (dp_ts ts hxd (noL_encS _)) .nil)
    by_cases hmap : ∃ v k x, st = .read v k ∧ nmGet nm k = some x
    · obtain ⟨v, k, x, rfl, hk⟩ := hmap
      obtain ⟨v1, r3, rfl, g1, g2⟩ := DpAll.cons_inv hsx3
      obtain ⟨v2, r4, rfl, g3, g4⟩ := DpAll.cons_inv g2
      obtain rfl := DpAll.nil_inv g4
      obtain rfl := Dp.str_inv g1
      obtain rfl := Dp.str_inv g3
      refine ⟨_, rfl, _, _, _, _, rfl, rfl, hsa3, at0, rfl, _, rfl, ifT (by rfl) ?_⟩
      refine ⟨_, rfl, _, _, _, _, rfl, rfl, hsa3, at2, _, rfl, na, _, rfl, .inl ⟨nK nm, .inr k, .of hna3, rfl, rfl⟩, _, rfl, ?_⟩
      rw [valV_nK, hk]
      refine ifT (by rfl) ?_
      refine ⟨_, rfl, _, rfl, ifT (by rfl) ?_⟩
      refine ⟨_, rfl, .inl ⟨rfl, _, SqL.of hacc3⟩, _, rfl, _, _, _, _, rfl, rfl, hsa3, at1, _, rfl, _, rfl, _, _, _, _, rfl, rfl, hsa3, at2, na, .str x, rfl, .inl ⟨nK nm, .inr k, .of hna3, rfl, by rw [valV_nK, hk]; rfl⟩, (by show 3 ≤ sizeLine; decide), fun t4 ht4 => ?_⟩
      refine fin _ (.ref t4) _ _ _ (smNew1 ht4 _) ?_
      rw [pinS, hk]
      exact .tup (SqT.of upd_same) (.cons (.str _) (.cons (.str _) (.cons (.str _) .nil)))
    have no : ∀ v k x, st = .read v k → nmGet nm k = some x → False := fun v k x e h => hmap ⟨v, k, x, e, h⟩
    refine ⟨_, rfl, _, _, _, _, rfl, rfl, hsa3, at0, rfl, _, rfl, ifBoth ?_ (fun hw hB => ?_)⟩
    case refine_2 =>
      obtain ⟨v, k, rfl⟩ := (word_read st).mp (V.str.inj (of_decide_eq_true hw))
      obtain ⟨v1, r3, rfl, g1, g2⟩ := DpAll.cons_inv hsx3
      obtain ⟨v2, r4, rfl, g3, g4⟩ := DpAll.cons_inv g2
      obtain rfl := Dp.str_inv g3
      refine ⟨_, rfl, _, _, _, _, rfl, rfl, hsa3, at2, _, rfl, na, _, rfl, .inl ⟨nK nm, .inr k, .of hna3, rfl, rfl⟩, _, rfl, ?_⟩
      rw [valV_nK]
      cases e : nmGet nm k with
      | some x => exact (no v k x rfl e).elim
      | none => exact ifF (by rfl) hB
    -- the bodies
    have hst3 : Dp K H3 (.ref sa) (encS false st) := by rw [encS_eq]; exact .tup hsa3 (.cons (.str _) hsx3)
    refine ⟨_, rfl, false, st, hst3, fun b0 H4 ys e4 nb0 hb0 hys => ?_⟩
    have lys : ys.length = st.bodies.length := by rw [DpAll.len hys, List.length_map]
    refine ⟨!ys.isEmpty, .inl ⟨ys, SqL.of hb0, rfl⟩, ?_⟩
    by_cases hbd : st.bodies = []
    · have ey : ys = [] := List.length_eq_zero_iff.mp (by rw [lys, hbd]; rfl)
      refine ifT (by rw [ey]; rfl) ?_
      refine ⟨_, rfl, .inl ⟨rfl, _, SqL.of (e4 _ _ hacc3)⟩, _, rfl, ?_⟩
      exact fin H4 (.ref sa) _ _ _ e4 (by rw [pin_none nm hbd no]; exact Dp.keep e4 hst3)
    have nby : ys ≠ [] := fun z => hbd (List.length_eq_zero_iff.mp (by rw [← lys, z]; rfl))
    refine ifF (by cases ys with
      | nil => exact absurd rfl nby
      | cons _ _ => rfl) ?_
    clear hb0 hys nb0 nby lys ys b0
    refine ⟨_, rfl, false, st, Dp.keep e4 hst3, fun b0 H5 ys e5 nb0 hb0 hys => ?_⟩
    have lys : ys.length = st.bodies.length := by rw [DpAll.len hys, List.length_map]
    have nby : 0 < st.bodies.length := List.length_pos_iff.mpr hbd
    have e35 := e4.trans e5
    have hsa5 := smT e35 hsa3
    obtain ⟨us, ws, rfl, hus, hws⟩ := DpAll.app_inv (DpAll.keep e35 hsx3)
    have lus : us.length = st.flats.length := DpAll.len hus
    have lws : ws.length = st.bodies.length := by rw [DpAll.len hws, List.length_map]
    have wtot : (V.str st.word :: (us ++ ws)).length = (1 + us.length) + st.bodies.length := by rw [List.length_cons, List.length_append, lws]; omega
    -- the plain part
    have ecut : (((V.str st.word :: (us ++ ws)).length : Nat) : Int) - (ys.length : Nat) = ((1 + us.length : Nat) : Int) := by rw [wtot, lys]; omega
    refine ⟨_, rfl, _, rfl, sa, _, rfl, .inr hsa5, _, rfl, b0, _, rfl, .inl (SqL.of hb0), _, _, rfl, rfl, ((1 + us.length : Nat) : Int), congrArg V.int ecut, sa, _, rfl, hsa5, ?_, fun p4 hp4 => ?_⟩
    · intro z
      have := z.2
      rw [HT.sIx_nat, wtot] at this
      omega
    rw [cutL_pre _ _ (by rw [wtot]; omega), show (V.str st.word :: (us ++ ws)).take (1 + us.length) = V.str st.word :: us by
      rw [Nat.add_comm, List.take_succ_cons, List.take_append_of_le_length (Nat.le_refl _), List.take_length]]
    have s6 := smNew1 hp4 (.tup (V.str st.word :: us))
    have hp4' : SqT K (upd H5 p4 (.tup (V.str st.word :: us))) p4 (V.str st.word :: us) := SqT.of upd_same
    obtain ⟨H6, eH6⟩ : ∃ H6, H6 = upd H5 p4 (.tup (V.str st.word :: us)) := ⟨_, rfl⟩
    rw [← eH6] at s6 hp4' ⊢
    clear eH6
    have e36 := e35.trans s6
    have hys6 := DpAll.keep (e5.trans s6) hys
    obtain ⟨ha_, rfl, hha⟩ := path_inv (Dp.keep e36 hh)
    -- turned
    refine ⟨_, rfl, ?_⟩
    refine enumA_of (.inl (SqL.of (s6 _ _ hb0))) (Same.refl _) fun J2 wk2 => ?_
    intro D nD
    refine lc_opt wk2 (fun (d : PyData) y H => Dp K H y d ∧ noL d = true) (fun j => (st.bodies[j]?).map fun bd => .tuple (encB false (pinB nm bd))) nD (small1000 (by have := form_five st; have := form_len st; omega)) (fun H' e => e)
      (fun _ _ _ _ h e => ⟨Dp.keep e h.1, h.2⟩) (fun _ _ _ _ _ h e => ⟨dp_ts (ts_upd _ e trivial) h.1 h.2, h.2⟩) ?_ ?_
    · rintro j y H7 H7' N hj e7 ⟨t7, v, z, rfl, nt7, rfl, hv, hz7⟩ hk _
      obtain rfl : V.int (j : Nat) = v := Option.some.inj hv
      obtain ⟨d7, hd7, hd7'⟩ := DpAll.getV hys6 hz7
      rw [List.getElem?_map] at hd7
      obtain ⟨bd, hbd7, rfl⟩ := Option.map_eq_some_iff.mp hd7
      have mbd := List.mem_of_getElem? hbd7
      have d2 := dS_mem mbd
      have c2 := cS_mem mbd
      have s8 := smNew1 nt7 (.tup [.int (j : Nat), z])
      refine ⟨t7, _, rfl, SqT.of upd_same, rfl, _, _, rfl, _, _, rfl, rfl, rfl, yesI ?_⟩
      refine ⟨_, rfl, _, rfl, _, rfl, (by show 1 ≤ sizeLine; decide), fun p8 hp8 => ?_⟩
      have s9 := s8.trans (smNew1 hp8 (.tup [.int (j : Nat)]))
      refine path_snoc (smT (e7.trans s9) hha) (SqT.of upd_same) (Nat.le_of_lt (small1000 (by rw [List.length_append, List.length_singleton]; omega))) fun here2 H9 s10 hh2 => ?_
      have s11 := s9.trans s10
      refine ⟨_, rfl, _, rfl, bd, _, na, nm, Dp.keep (e7.trans s11) hd7', hh2, rfl, s11 _ _ (e7 _ _ (e36 _ _ hna3)), rfl, by omega, by omega, by rw [List.length_append, List.length_append, List.length_singleton, List.length_singleton]; omega, fun v H10 e10 hv10 => ?_⟩
      exact hk _ _ _ (by rw [hbd7]; rfl) (s11.trans e10) ⟨hv10, noL_encB _⟩
    intro H7 zs e7 hD hp7
    rw [lys, show (List.range st.bodies.length).filterMap (fun j => (st.bodies[j]?).map fun bd => PyData.tuple (encB false (pinB nm bd))) = st.bodies.map fun bd => .tuple (encB false (pinB nm bd)) by
      have := congrArg (List.map fun bd => PyData.tuple (encB false (pinB nm bd))) (some_range st.bodies)
      rw [List.map_filterMap] at this
      exact this] at hp7
    have hzs := paired_dp2 hp7
    have lzs : zs.length = st.bodies.length := by rw [DpAll.len hzs, List.length_map]
    have e37 := e36.trans e7
    refine ⟨_, rfl, .inl ⟨rfl, _, SqL.of (e37 _ _ hacc3)⟩, _, rfl, _, rfl, D, _, rfl, .inl ⟨SqL.of hD, fun p9 hp9 => ?_⟩⟩
    have s9 := smNew1 hp9 (.tup zs)
    refine catA_of (smT (e7.trans s9) hp4') (SqT.of upd_same) (Nat.le_of_lt (small1000 (by rw [List.length_cons]; have := form_five st; have := form_len st; omega))) fun tt H9 s10 htt => ?_
    refine fin H9 (.ref tt) _ _ _ (e37.trans (s9.trans s10)) ?_
    obtain ⟨pw, pf⟩ := pin_flats nm hbd
    rw [encS_eq, pw, pf, pin_bodies, List.map_map]
    exact .tup htt (.cons (.str _) (DpAll.app (DpAll.keep ((s6.trans e7).trans (s9.trans s10)) hus) (DpAll.keep (s9.trans s10) hzs)))
  · rintro σ H1 ⟨s1, ⟨acc, hacc, hdp⟩, v5, v6, v7, v8, v9, v10, rfl⟩
    rw [lx, List.take_length] at hdp
    refine ⟨_, rfl, fd, _, rfl, .inl ⟨SqL.of hacc, fun r hr => ?_⟩⟩
    exact q _ _ (smNew s1 hr _) (.tup (SqT.of upd_same) (DpAll.keep (smNew1 hr _) hdp))
theorem c_replaced (T : Top w K mg) : ∀ n, Cal P w K mg base CX0 (n + 2) "replaced" (spRepl K n)
  | 0 => cal_never (f_replaced T) (g_replaced T) (ps := ["body", "path", "names", "only"]) (fun _ _ _ _ _ _ us hl => match us, hl with | [_, _, _, _], _ => rfl) fun vs H Q E h => by
      match vs, h with
      | [b, p, y, o], h =>
      obtain ⟨l, _, _, _, _, _, _, _, _, hn, _⟩ := h
      have := dB_one l
      omega
  | n + 1 => ok_replaced T (c_replaced T n)
end
end RM

set_option Elab.async false
set_option linter.all false
set_option maxRecDepth 100000
set_option maxHeartbeats 2000000
/-! dict(zip(a list, a list)) -/
namespace RM
open PySem PySem.Spec PyProof.Rows L2
section
variable {prog : Program} {w : World} {A : Around} {E : Value → Shared → Prop} {s : Shared} {z TI TO T i1 i2 : Addr} {fp1 fp2 : List Addr} {n1 n2 i : Nat} {P1 P2 : Nat → Value → Prop} {St1 St2 : Nat → Heap → Prop} {f : Bool} {oT : Obj}
/-- two lists' zip as dict's argument -/
theorem pairs_zipL {t1 t2 : Addr} (S : ZipSep2 z TI TO i1 i2 [i1, t1] [i2, t2]) (ne1 : t1 ≠ i1) (ne2 : t2 ≠ i2) (xs ys : Array Value) (hl : xs.size = ys.size) :
    PairArg prog w "zip" z [z, TI, TO, i1, i2, t1, t2] [z, TO, i1, i2] xs.size (fun i k v => xs[i]? = some k ∧ ys[i]? = some v)
      (fun h => IsZip h z TI TO .none ∧ IsTupOf2 h TI (.ref i1) (.ref i2) ∧ (∃ a b, IsTupOf2 h TO a b) ∧ (h.IsListIter i1 t1 0 ∧ h.IsList t1 xs) ∧ (h.IsListIter i2 t2 0 ∧ h.IsList t2 ys)) where
  type := fun _ z => ⟨_, z.1, rfl⟩
  notDict := by decide
  keep := fun h h' ok hk => by
    obtain ⟨a, b, ⟨x, y, c⟩, ⟨d, e⟩, g, j⟩ := ok
    exact ⟨hk _ _ a, hk _ _ b, ⟨x, y, hk _ _ c⟩, ⟨d.at fun o e => hk _ o e, e.at fun o e => hk _ o e⟩, g.at fun o e => hk _ o e, j.at fun o e => hk _ o e⟩
  there := fun h ok b hb => by
    obtain ⟨a, b1, ⟨x, y, c⟩, ⟨⟨o1, d, _⟩, ⟨o2, e, _⟩⟩, ⟨o3, g, _⟩, ⟨o4, j, _⟩⟩ := ok
    simp only [List.mem_cons, List.not_mem_nil, or_false] at hb
    rcases hb with rfl | rfl | rfl | rfl | rfl | rfl | rfl
    all_goals first | exact ⟨_, a⟩ | exact ⟨_, b1⟩ | exact ⟨_, c⟩ | exact ⟨_, d⟩ | exact ⟨_, g⟩ | exact ⟨_, e⟩ | exact ⟨_, j⟩
  sub := fun b hb => by
    simp only [List.mem_cons, List.not_mem_nil, or_false] at hb ⊢
    rcases hb with rfl | rfl | rfl | rfl <;> simp
  noKeys := fun _ _ _ _ calm ok k => getAttrOr_miss_zip (hA := calm) ok.1 rfl rfl rfl zip_no_keys (by decide +kernel) (h := k)
  iter := fun A s d Q E hA ok hd off h => by
    obtain ⟨hz, hTI, ⟨a, b, hTO⟩, m1, m2⟩ := ok
    simp only [List.mem_cons, List.not_mem_nil, or_false, not_or] at off
    obtain ⟨dz, dTI, dTO, di1, di2, dt1, dt2⟩ := off
    have D1 : Draws prog w A.in1 i1 [i1, t1] xs.size (fun i v => xs[i]? = some v) (fun i h => h.IsListIter i1 t1 i ∧ h.IsList t1 xs) := Draws.list (A := A.in1) hA i1 t1 ne1 xs
    have D2 : Draws prog w A.in1 i2 [i2, t2] ys.size (fun i v => ys[i]? = some v) (fun i h => h.IsListIter i2 t2 i ∧ h.IsList t2 ys) := Draws.list (A := A.in1) hA i2 t2 ne2 ys
    refine wpAny_pyIter_zip hz (h z [z, TO, i1, i2] (fun i h => IsTupOf2 h TI (.ref i1) (.ref i2) ∧ (h.IsListIter i1 t1 i ∧ h.IsList t1 xs) ∧ (h.IsListIter i2 t2 i ∧ h.IsList t2 ys) ∧
      ((IsZip h z TI TO .none ∧ ∃ a b, IsTupOf2 h TO a b) ∨ ∃ T f oT, IsZipHeld h z TI TO T f ∧ h.get? T = some oT ∧ T ≠ z ∧ T ≠ i1 ∧ T ≠ i2 ∧ T ≠ d)) s.heap s.toks ?_ ⟨hTI, m1, m2, .inl ⟨hz, a, b, hTO⟩⟩ (fun _ _ e => e) fun b hb => .inl hb)
    exact {
      off := fun hm => by
        simp only [List.mem_cons, List.not_mem_nil, or_false] at hm
        rcases hm with e | e | e | e
        · exact dz e
        · exact dTO e
        · exact di1 e
        · exact di2 e
      frame := fun i h1 h2 st hk => by
        obtain ⟨p, ⟨u1, u2⟩, ⟨v1, v2⟩, q⟩ := st
        refine ⟨hk _ _ (Ne.symm dTI) p, ⟨u1.at fun o e => hk _ o (Ne.symm di1) e, u2.at fun o e => hk _ o (Ne.symm dt1) e⟩, ⟨v1.at fun o e => hk _ o (Ne.symm di2) e, v2.at fun o e => hk _ o (Ne.symm dt2) e⟩, ?_⟩
        rcases q with ⟨q, a, b, r⟩ | ⟨T, f, oT, q, hT, r1, r2, r3, r4⟩
        · exact .inl ⟨hk _ _ (Ne.symm dz) q, a, b, hk _ _ (Ne.symm dTO) r⟩
        · exact .inr ⟨T, f, oT, hk _ _ (Ne.symm dz) q, hk _ _ r4 hT, r1, r2, r3, r4⟩
      item := fun i s1 Q1 E1 hi st hds hQ => by
        obtain ⟨p, u, v, q⟩ := st
        have lt : ∀ {c o}, s1.heap.get? c = some o → s1.heap.objs.size ≠ c := fun e => Nat.ne_of_gt (Heap.lt_size e)
        have n1 : s1.heap.objs.size ≠ i1 := let ⟨_, e, _⟩ := u.1; lt e
        have n2 : s1.heap.objs.size ≠ i2 := let ⟨_, e, _⟩ := v.1; lt e
        rcases q with ⟨q, a, b, r⟩ | ⟨T, f, oT, q, hT, r1, r2, r3, r4⟩
        · refine wpAny_pyNext_zipD2_item S D1 D2 q p r u v hi (hl ▸ hi) fun x y h' tk px py a1 a2 a3 a4 a5 a6 hk => ?_
          exact hQ s1.heap.objs.size x y h' tk ⟨px, py⟩ (.inl ⟨_, a5, rfl, _, rfl⟩) ⟨hk _ _ S.TIz S.TITO S.TIi1 S.TIi2 p, a3, a4, .inr ⟨s1.heap.objs.size, false, _, a1, a5, lt q, n1, n2, Nat.ne_of_gt hds⟩⟩
            fun c o hc e => let ⟨n1, n2, n3, n4⟩ := out4 hc; hk c o n1 n2 n3 n4 e
        · refine next_held S D1 D2 q hT p u v hi (hl ▸ hi) fun x y h' tk px py a1 a3 a4 a5 hk => ?_
          exact hQ s1.heap.objs.size x y h' tk ⟨px, py⟩ (.inl ⟨_, a5, rfl, _, rfl⟩) ⟨hk _ _ S.TIz S.TIi1 S.TIi2 p, a3, a4, .inr ⟨T, true, oT, a1, hk _ _ r1 r2 r3 hT, r1, r2, r3, r4⟩⟩
            fun c o hc e => let ⟨n1, _, n3, n4⟩ := out4 hc; hk c o n1 n3 n4 e
      done := fun s1 Q1 E1 st hQ => by
        obtain ⟨p, u, v, q⟩ := st
        rcases q with ⟨q, a, b, r⟩ | ⟨T, f, oT, q, hT, r1, r2, r3, r4⟩
        · exact wpAny_pyNext_zipD2_end S D1 D2 q p r u v (Nat.le_refl _) (Nat.le_of_eq hl) (.inl rfl) fun h' tk hk => hQ h' tk fun c o hc e => let ⟨n1, n2, n3, n4⟩ := out4 hc; hk c o n1 n2 n3 n4 e
        · exact next_held_end S D1 D2 q hT p u v (Nat.le_refl _) (Nat.le_of_eq hl) (.inl rfl) fun h' tk hk => hQ h' tk fun c o hc e => let ⟨n1, _, n3, n4⟩ := out4 hc; hk c o n1 n3 n4 e }
end
/-- dict(zip(a, b)): keys ks, values vs -/
def tDictZipL (K : PySem.W.Frag) (t : TA) : TE := fun σ H Q => t σ H fun us H1 => ∃ (a b : Addr) (ks : List Key) (vs : List V), us = [.ref a, .ref b] ∧ SqL K H1 a (ks.map kV) ∧ SqL K H1 b vs ∧ ks.length = vs.length ∧
  ∀ p, H1 p = none → Q (.ref p) (upd H1 p (.dK (mergeK [] (ks.zip vs))))
theorem pe_dictZipL {X : Cx} {e e2 : Expr} {t : TA} {p p2 pos pos2 : Pos} (hcalm : X.calm = true) (hg : Gl X "dict") (hm : X.mg "dict" = none) (hg2 : Gl X "zip") (hm2 : X.mg "zip" = none) (ha : PA X [e, e2] t)
    (tree : backTo pos (starEach [Expr.Call (.Name "zip" p2) [e, e2] [] pos2] X.env) = [(false, eval (Expr.Call (.Name "zip" p2) [e, e2] [] pos2) X.env)] := by rfl)
    (two : starEach [e, e2] X.env = (false, eval e X.env) :: starEach [e2] X.env := by rfl) (plain : (backTo pos2 (starEach [e2] X.env)).any (·.1) = false := by rfl) :
    PE X (.Call (.Name "dict" p) [.Call (.Name "zip" p2) [e, e2] [] pos2] [] pos) (tDictZipL X.K t) := by
  refine ⟨fun pins s σ H Q I h => ?_⟩
  refine wpAny_Call_Name_kw (ld_blt I hg hm boot_dict (PyProof.Rows.callWith_type1 ?_ rfl rfl))
  rw [tree]
  refine Calls.spliced_cons (wpAny_Call_Name_kw (ld_blt I hg2 hm2 PyProof.Rows.boot_zip (PyProof.Rows.callWith_type1 (thn (ha.run pos2 pins s σ H _ I h) ?_) two plain)))
  rintro us s1 ⟨_, H1, I1, rel, a, b, ks, vs, rfl, sa, sb, l, q⟩
  obtain ⟨_, _, rfl, ra, rb⟩ := vals2 rel
  cases ra
  cases rb
  obtain ⟨xs, rx, at1', z1⟩ := I1.list sa
  have at1 := at1'.isList
  obtain ⟨ys, ry, at2', z2⟩ := I1.list sb
  have at2 := at2'.isList
  have lx := rx.length
  have ly := ry.length
  rw [List.length_map] at lx
  have lt1 : a < s1.heap.objs.size := let ⟨_, e, _⟩ := at1; Heap.lt_size e
  have lt2 : b < s1.heap.objs.size := let ⟨_, e, _⟩ := at2; Heap.lt_size e
  have sep := zip_sep2 (N := s1.heap.objs.size) (fp1 := [a]) (fp2 := [b]) (fun c hc => (List.mem_singleton.mp hc).symm ▸ lt1) (fun c hc => (List.mem_singleton.mp hc).symm ▸ lt2)
  refine zip_begins2 (begins_list a xs.toArray) (begins_list b ys.toArray) at1 at2 fun hp zi ti to_ i1 i2 sz old => Calls.spliced_nil ?_
  have p1 : hp.IsList a xs.toArray := let ⟨o, ho, r⟩ := at1; ⟨o, old _ _ ho, r⟩
  have p2 : hp.IsList b ys.toArray := let ⟨o, ho, r⟩ := at2; ⟨o, old _ _ ho, r⟩
  refine PySem.call_dict_pairs (s := { s1 with heap := hp }) (knd := mixKind X.prog X.w) (kvs := ks.zip ys) (pairs_zipL (prog := X.prog) (w := X.w) sep (Nat.ne_of_lt lt1) (Nat.ne_of_lt (Nat.lt_succ_of_lt lt2)) xs.toArray ys.toArray (by simp only [List.size_toArray]; omega))
    (I.ok.hd hcalm) ⟨zi, ti, ⟨_, _, to_⟩, ⟨⟨_, i1, rfl, rfl⟩, p1⟩, ⟨_, i2, rfl, rfl⟩, p2⟩ ⟨?_, fun i key v hr => ?_⟩ ?_ fun h' tk dd hk => ?_
  · rw [List.length_zip]
    simp only [List.size_toArray]
    omega
  · obtain ⟨e1, e2⟩ := hr
    have e1' : xs[i]? = some key := by simpa using e1
    have e2' : ys[i]? = some v := by simpa using e2
    have hi := (List.getElem?_eq_some_iff.mp e1').1
    obtain ⟨u, hu, ru⟩ := Vals.get (i := i) (x := kV ks[i]) rx (by rw [List.getElem?_map, List.getElem?_eq_getElem (by omega)]; rfl)
    rw [e1'] at hu
    cases hu
    exact ⟨ks[i], List.getElem?_zip_eq_some.mpr ⟨List.getElem?_eq_getElem _, e2'⟩, kV_is ru⟩
  · simp only [List.size_toArray]
    rw [← lx]
    have := z1
    rw [List.length_map] at this
    exact this
  · have old' : ∀ c o, s1.heap.get? c = some o → h'.get? c = some o := fun c o hc => by
      have lc := Heap.lt_size hc
      refine hk c o (fun hm => ?_) (old c o hc)
      simp only [List.mem_cons, List.not_mem_nil, or_false] at hm
      rcases hm with e | e | e | e <;> (rw [e] at lc; exact absurd lc (Nat.not_lt.mpr (by first | exact Nat.le_refl _ | exact Nat.le_add_right _ _)))
    have lm : (s1.heap.objs.size + 5 == sysModules) = false := beq_eq_false_iff_ne.mpr (Nat.ne_of_gt (Nat.lt_of_lt_of_le I1.big (Nat.le_add_right _ _)))
    have sz' : hp.objs.size = s1.heap.objs.size + 5 := sz
    have hlen : (mergeK [] (ks.zip vs)).length ≤ sizeLine := by
      refine Nat.le_trans (length_mergeK _ []) ?_
      rw [List.length_nil, Nat.zero_add, List.length_zip, l, Nat.min_self]
      exact z2
    show EP X pins σ Q (.ref hp.objs.size) _
    have dd' : h'.DictOf (mixKind X.prog X.w) hp.objs.size (merged [] (ks.zip ys)) := dd
    rw [sz'] at dd' ⊢
    exact ⟨.ref (s1.heap.objs.size + 5), _, I1.laid (t' := tk) old' (Nat.le_add_right _ _) (show ObjOk X.prog X.w _ _ _ (.dK (mergeK [] (ks.zip vs))) from ⟨hlen, lm, merged [] (ks.zip ys), KV.merge (kv_zip ry) .nil, dd'⟩), rfl, q _ (I1.hok.fresh (Nat.le_add_right _ _))⟩
end RM

set_option Elab.async false
set_option linter.all false
set_option maxRecDepth 100000
set_option maxHeartbeats 4000000
set_option pp.maxSteps 600
set_option pp.deepTerms false
/-! with_reads, pinned -/
namespace RM
open PySem PySem.Spec PyProof.Rows L2
theorem zip_nK : ∀ (ks zs : List Str), (ks.map fun k => (Sum.inr k : Key)).zip (zs.map V.str) = nK (ks.zip zs)
  | [], _ => rfl
  | k :: ks, [] => rfl
  | k :: ks, z :: zs => by
    rw [List.map_cons, List.map_cons, List.zip_cons_cons, zip_nK ks zs]
    rfl
theorem nmGet_zip {ks zs : List Str} (nd : ks.Nodup) {i : Nat} {k z : Str} (hk : ks[i]? = some k) (hz : zs[i]? = some z) : nmGet (ks.zip zs) k = some z := by
  induction ks generalizing zs i with
  | nil => cases hk
  | cons k0 r ih =>
    cases zs with
    | nil => cases hz
    | cons z0 t =>
      rw [List.nodup_cons] at nd
      rw [List.zip_cons_cons, nmGet_cons]
      cases i with
      | zero =>
        cases hk
        cases hz
        exact if_pos rfl
      | succ i =>
        have ne : k0 ≠ k := fun e => nd.1 (by rw [e]; exact List.mem_of_getElem? hk)
        rw [if_neg ne]
        exact ih nd.2 hk hz
theorem zip_fst {ks zs : List Str} (h : ks.length ≤ zs.length) : (ks.zip zs).map (·.1) = ks := List.map_fst_zip h
theorem zip_take {ks zs : List Str} : ks.zip (zs.take ks.length) = ks.zip zs := by
  induction ks generalizing zs with
  | nil => rfl
  | cons k r ih =>
    cases zs with
    | nil => rfl
    | cons z t => rw [List.length_cons, List.take_succ_cons, List.zip_cons_cons, List.zip_cons_cons, ih]
/-- the names that are given to keys -/
def nmOf (l : List Stm) (ks : List Str) : NM := ks.zip (freeL l)
theorem nmOf_ok {l : List Stm} {ks : List Str} (vl : vB l = true) (wk : ∀ k ∈ ks, isWord k = true) (lk : ks.length ≤ 20) (nd : ks.Nodup) :
    (∀ q ∈ nmOf l ks, q.1 ∈ ks ∧ isWord q.1 = true ∧ isWord q.2 = true ∧ q.2 ∈ freeL l) ∧ (nmOf l ks).length = ks.length ∧ ((nmOf l ks).map (·.1)).Nodup ∧ ((nmOf l ks).map (·.2)).Nodup := by
  have fl := free_len vl
  refine ⟨fun q hq => ?_, ?_, ?_, ?_⟩
  · have h := List.of_mem_zip (a := q.1) (b := q.2) hq
    exact ⟨h.1, wk _ h.1, (free_in h.2).2, h.2⟩
  · unfold nmOf
    rw [List.length_zip]
    omega
  · unfold nmOf
    rw [zip_fst (by omega)]
    exact nd
  · have hn : (freeL l).Nodup := letters_ok.1.sublist (List.filter_sublist)
    unfold nmOf
    rw [show (ks.zip (freeL l)).map (·.2) = (freeL l).take ks.length by
      rw [← zip_take]
      exact List.map_snd_zip (by rw [List.length_take]; omega)]
    exact hn.sublist (List.take_sublist ..)
section
variable {P : Program} {w : World} {K : PySem.W.Frag} {mg : Str → Option Value} {base : Heap}
def spWithR (K : PySem.W.Frag) : Sp := fun vs H Q _ => match vs with
  | [x, y, o] => ∃ a l kp ks, x = .ref a ∧ y = .ref kp ∧ o = .non ∧ PrgAt K H a l ∧ wB l = true ∧ dB l ≤ 4 ∧ vB l = true ∧ SqL K H kp (ks.map V.str) ∧ ks.Nodup ∧ (∀ k ∈ ks, isWord k = true) ∧ ks.length ≤ 10 ∧ cB l + ks.length ≤ 60 ∧
    ∀ p H', Same H H' → H p = none → PrgAt K H' p (pinL (nmOf l ks) l) → Q (.ref p) H'
  | _ => False
theorem sc_with_reads : FnScope ["program", "keys", "only", "names", "first", "key"] ["program", "keys", "only"] (defScope s_with_reads) := ⟨rfl, rfl, rfl, by decide +kernel, rfl, by decide +kernel, by decide +kernel⟩
theorem c_with_reads (T : Top w K mg) : Cal P w K mg base CX0 11 "with_reads" (spWithR K) := by
  refine cal_0 (f_with_reads T) (g_with_reads T) sc_with_reads (fun _ _ _ _ _ _ us hl => match us, hl with | [_, _, _], _ => rfl) (fun vs H Q E h => match vs, h with | [_, _, _], _ => rfl) (fun cdv A outer s H vs Q E hr h => ?_)
  match vs, h with
  | [x, y, o], h =>
  obtain ⟨a, l, kp, ks, rfl, rfl, rfl, pa, wl, dl, vl, hkp, nd, wk, lk, cl, q⟩ := h
  obtain ⟨nm1, nm2, nm3, nm4⟩ := nmOf_ok vl wk (by omega) nd
  have fl := free_len vl
  refine ⟨_, (pss_cons (ps_set (i := 3) sc_with_reads.nd rfl (Or.inr rfl) (pe_dictZipL rfl (by rfl) (z_dict T) (by rfl) (z_zip T) (pa_cons (pv 1) (pa_cons (pc (c_free_names T) hr (pa_cons (pv 0) (pa_cons (pcb (z_len T) call_len_seq boot_len (pa_cons (pv 1) pa_nil)) pa_nil))) pa_nil))))
    (pss_cons (ps_set (i := 4) sc_with_reads.nd rfl (Or.inl rfl) (pct (z_tuple T) call_tuple_of boot_tuple (pa_cons (pe_lc (own := [("key", 5)]) rfl sc_with_reads.nd (pi_list (pv 1)) (blkOk_by (own := [("key", 5)]) (N := ["program", "keys", "only", "names", "first", "key"]) (sc := defScope s_with_reads) (by decide +kernel)) (fun _ _ _ _ _ => (pg_name (i := 5) sc_with_reads.nd rfl (Or.inl rfl) (Or.inr rfl))) (fun _ _ _ _ _ => pts_nil) (fun _ _ _ _ _ => (pe_tup (pa_cons pe_str (pa_cons (pe_dget (hu_of hr) (pv 3) (pv 5) (fun _ _ => rfl)) (pa_cons (pv 5) pa_nil)))))) pa_nil)))
    (pss_one (ps_ret (pmk (c_Program_init T) hr (pa_cons (pe_op op_catG (pv 4) (pc (c_replaced T 4) hr (pa_cons (pe_fld (pv 0) rfl) (pa_cons (pe_tup pa_nil) (pa_cons (pv 3) (pa_cons (pv 2) pa_nil)))))) pa_nil)))))), ?_⟩
  refine ⟨_, rfl, _, rfl, _, rfl, kp, _, rfl, .inl hkp, a, l, ks.length, rfl, by rw [List.length_map], pa, dl, by omega, vl, by omega, fun fp H1 e1 nfp hfp => ?_⟩
  refine ⟨kp, fp, ks.map fun k => (Sum.inr k : Key), ((freeL l).take ks.length).map V.str, rfl, by rw [List.map_map]; exact e1.seq hkp, SqL.of hfp, by rw [List.length_map, List.length_map, List.length_take]; omega, fun d hd => ?_⟩
  rw [zip_nK, zip_take, show mergeK [] (nK (ks.zip (freeL l))) = nK (nmOf l ks) from mergeNK (nmOf l ks) [] nm3]
  have e2 := e1.trans (smNew1 hd (.dK (nK (nmOf l ks))))
  have hd2 : (upd H1 d (.dK (nK (nmOf l ks)))) d = some (.dK (nK (nmOf l ks))) := upd_same
  obtain ⟨H2, eH2⟩ : ∃ H2, H2 = upd H1 d (.dK (nK (nmOf l ks))) := ⟨_, rfl⟩
  rw [← eH2] at e2 hd2 ⊢
  clear eH2 e1 hfp
  -- first
  refine ⟨_, rfl, kp, rfl, ⟨_, e2.seq hkp⟩, fun D nD => ?_⟩
  refine lc_opt (walk_list (xs := ks.map V.str)) (fun (q : Str × Str) y H => Dp K H y (encS false (.read q.2 q.1))) (fun i => (nmOf l ks)[i]?) nD (small1000 (by rw [List.length_map]; omega)) (fun H' e => (e2.trans e).seq hkp) (fun _ _ _ _ h e => Dp.keep e h) (fun _ _ _ _ _ h e => dp_ts (ts_upd _ e trivial) h (noL_encS _)) ?_ ?_
  · rintro i x H3 H4 N hi e ⟨rfl, hx⟩ hk _
    rw [List.getElem?_map] at hx
    obtain ⟨k, hk1, rfl⟩ := Option.map_eq_some_iff.mp hx
    have il := (List.getElem?_eq_some_iff.mp hk1).1
    obtain ⟨z, hz⟩ : ∃ z, (freeL l)[i]? = some z := ⟨_, List.getElem?_eq_getElem (by omega)⟩
    refine ⟨rfl, yesI ?_⟩
    refine ⟨_, rfl, _, rfl, d, .str z, rfl, .inl ⟨nK (nmOf l ks), .inr k, .of (e _ _ hd2), rfl, by rw [valV_nK]; unfold nmOf; rw [nmGet_zip nd hk1 hz]; rfl⟩, _, rfl, (by show 3 ≤ sizeLine; decide), fun t ht => ?_⟩
    exact hk _ _ (k, z) (by unfold nmOf; rw [List.getElem?_zip_eq_some]; exact ⟨hk1, hz⟩) (smNew1 ht _) (.tup (SqT.of upd_same) (.cons (.str _) (.cons (.str _) (.cons (.str _) .nil))))
  intro H3 ys e3 hD hp'
  rw [List.length_map, ← nm2, some_range] at hp'
  have hys : DpAll K H3 ys (encB false (readsNm (nmOf l ks))) := by
    rw [encB_map]
    unfold readsNm
    rw [List.map_map]
    exact paired_map hp'
  have lys : ys.length = ks.length := by rw [DpAll.len hys, encB_map, List.length_map]; unfold readsNm; rw [List.length_map, nm2]
  refine ⟨D, _, rfl, .inl ⟨SqL.of hD, fun f hf => ?_⟩⟩
  have e4 := e3.trans (smNew1 hf (.tup ys))
  have hf4 : SqT K (upd H3 f (.tup ys)) f ys := SqT.of upd_same
  have hys4 := DpAll.keep (smNew1 hf (.tup ys)) hys
  obtain ⟨H4, eH4⟩ : ∃ H4, H4 = upd H3 f (.tup ys) := ⟨_, rfl⟩
  rw [← eH4] at e4 hf4 hys4 ⊢
  clear eH4 hD hp' hys e3
  have e24 := e2.trans e4
  obtain ⟨dx, v, hpa, hv⟩ := pa.keep e24
  refine ⟨_, rfl, _, rfl, a, _, dx, _, v, rfl, hpa, k_Program T, na_Program_body T, rfl, (by show 0 ≤ sizeLine; decide), fun p0 hp0 => ?_⟩
  have e5 := smNew1 hp0 (.tup [])
  refine ⟨_, rfl, _, rfl, l, [], d, nmOf l ks, Dp.keep e5 hv, path0 (SqT.of upd_same), rfl, e5 _ _ (e4 _ _ hd2), rfl, dl, by omega, by show 0 + 2 * 4 ≤ 900; omega, fun v2 H5 e6 hv2 => ?_⟩
  obtain ⟨b2, xs2, rfl, hb2, hxs2⟩ := Dp.tup_inv hv2
  have e56 := e5.trans e6
  have lx2 : xs2.length ≤ 60 := by
    have h1 := cB_len (pinB (nmOf l ks) l)
    rw [cB_pin] at h1
    rw [DpAll.len hxs2, encB_map, List.length_map]
    omega
  refine catA_of (smT e56 hf4) hb2 (Nat.le_of_lt (small1000 (by omega))) fun t H6 e7 ht => ?_
  have e57 := e56.trans e7
  obtain ⟨r1, r2, r3, r4⟩ := reads_shape (nmOf l ks)
  intro x2 dx2 hx2 hdx2 hne2
  have mI := mk_in (C := He.ga K "Program") hx2 hdx2 hne2
  have dpt : Dp K H6 (.ref t) (seqD false (encB false (pinL (nmOf l ks) l))) := .tup ht (by
    unfold pinL
    rw [encB_app]
    exact DpAll.app (DpAll.keep e57 hys4) (DpAll.keep e7 hxs2))
  refine ⟨x2, dx2, false, pinL (nmOf l ks) l, rfl, upd_same, Dp.keep mI dpt, ?_, ?_, ?_, fun H7 off pp => ⟨rfl, q x2 H7 ((e24.trans e57).trans (mk_sm hx2 hdx2 off)) ((e24.trans e57).free hx2) pp⟩⟩
  · unfold pinL
    rw [wB_app, r3 fun q hq => ⟨(nm1 q hq).2.1, (nm1 q hq).2.2.1⟩, wB_pin (fun q hq => (nm1 q hq).2.2.1) l wl]
    rfl
  · unfold pinL
    have := dB_app1 (readsNm (nmOf l ks)) (pinB (nmOf l ks) l)
    rw [this, r1, dB_pin]
    omega
  · unfold pinL
    rw [cB_app, r2, nm2, cB_pin]
    omega
def spPinned (K : PySem.W.Frag) : Sp := fun vs H Q _ => match vs with
  | [x, y] => ∃ a l kp, ∃ ks0 : List Str, x = .ref a ∧ y = .ref kp ∧ PrgAt K H a l ∧ wB l = true ∧ dB l ≤ 4 ∧ cB l ≤ 50 ∧ vB l = true ∧ SqA K H kp (ks0.map V.str) ∧
    ∀ ks, RM.KeysOf ks ((readsOf l).map (·.2)) → (∀ k ∈ ks, isWord k = true) ∧ ks.length ≤ 10 ∧
      ∀ p H', Same H H' → H p = none → PrgAt K H' p (pinL (nmOf l (ks.filter fun k => decide (k ∈ ks0))) l) → Q (.ref p) H'
  | _ => False
theorem sc_pinned : FnScope ["program", "keys", "key"] ["program", "keys"] (defScope s_pinned) := ⟨rfl, rfl, rfl, by decide +kernel, rfl, by decide +kernel, by decide +kernel⟩
theorem c_pinned (T : Top w K mg) : Cal P w K mg base CX0 12 "pinned" (spPinned K) := by
  refine cal_0 (f_pinned T) (g_pinned T) sc_pinned (fun _ _ _ _ _ _ us hl => match us, hl with | [_, _], _ => rfl) (fun vs H Q E h => match vs, h with | [_, _], _ => rfl) (fun cdv A outer s H vs Q E hr h => ?_)
  match vs, h with
  | [x, y], h =>
  obtain ⟨a, l, kp, ks0, rfl, rfl, pa, wl, dl, cl, vl, hkp, q⟩ := h
  obtain ⟨dx, v, ha, hv⟩ := id pa
  refine ⟨_, (pss_one (ps_ret (pc (c_with_reads T) hr (pa_cons (pv 0) (pa_cons (pe_lc (own := [("key", 2)]) rfl sc_pinned.nd (pi_seqA (pmt0 (c_Program_keys_of T) hr (pv 0))) (blkOk_by (own := [("key", 2)]) (N := ["program", "keys", "key"]) (sc := defScope s_pinned) (by decide +kernel)) (fun _ _ _ _ _ => (pg_name (i := 2) sc_pinned.nd rfl (Or.inl rfl) (Or.inr rfl))) (fun _ _ _ _ _ => (pts_one (pt_cmpR (op_in_seq' (K := K) rfl) (pv 2) (pv 1) rfl))) (fun _ _ _ _ _ => (pv 2))) (pa_cons pe_non pa_nil)))))), ?_⟩
  refine ⟨_, rfl, _, rfl, a, dx, _, rfl, ha, rfl, a, l, rfl, pa, dl, by omega, fun ks t H1 e1 ht hks => ?_⟩
  obtain ⟨wk, lk, q⟩ := q ks hks
  refine seqA_of (.inr (SqT.of ht)) (Same.refl _) fun J wlk => ?_
  intro D nD
  refine lc_opt wlk (fun (z : Str) y _ => y = .str z) (fun i => (ks[i]?).bind fun z => if z ∈ ks0 then some z else none) nD (small1000 (by rw [List.length_map]; omega)) (fun H' e => e) (fun _ _ _ _ h _ => h) (fun _ _ _ _ _ h _ => h) ?_ ?_
  · rintro i x H2 H3 N hi e ⟨rfl, hx⟩ hk hno
    rw [List.getElem?_map] at hx
    obtain ⟨k, hk1, rfl⟩ := Option.map_eq_some_iff.mp hx
    refine ⟨rfl, _, rfl, _, rfl, kp, _, rfl, sqA_sm (e1.trans e) hkp, rfl, flat_strs ks0, _, rfl, ?_⟩
    show if (inV (V.str k) (ks0.map V.str)) = true then _ else _
    rw [inV_strs]
    by_cases hm : k ∈ ks0
    · exact ifT (decide_eq_true hm) ⟨_, rfl, hk _ _ k (by rw [hk1]; exact if_pos hm) (Same.refl _) rfl⟩
    · exact ifF (decide_eq_false hm) (hno (by rw [hk1]; exact if_neg hm) _ (Same.refl _))
  intro H2 ys e hD hp'
  have eq1 : (List.range (ks.map V.str).length).filterMap (fun i => (ks[i]?).bind fun z => if z ∈ ks0 then some z else none) = ks.filter fun k => decide (k ∈ ks0) := by
    rw [List.length_map, filterMap_at2]
    clear hp' hD e hks wk lk q nD ht wlk
    induction ks with
    | nil => rfl
    | cons k r ih =>
      rw [List.filterMap_cons, List.filter_cons]
      by_cases hm : k ∈ ks0
      · rw [if_pos hm, if_pos (by simpa using hm), ih]
      · rw [if_neg hm, if_neg (by simpa using hm), ih]
  rw [eq1] at hp'
  have hys := paired_eq hp'
  subst hys
  have e12 := e1.trans e
  have lf : (ks.filter fun k => decide (k ∈ ks0)).length ≤ ks.length := List.length_filter_le ..
  refine ⟨a, l, D, ks.filter fun k => decide (k ∈ ks0), rfl, rfl, rfl, pa.keep e12, wl, dl, vl, SqL.of hD, hks.2.1.sublist List.filter_sublist, fun k hk => wk k ((List.mem_filter.mp hk).1), by omega, by omega, fun p H3 e3 np pp => ?_⟩
  exact q p H3 (e12.trans e3) (e12.free np) pp
end
end RM

set_option Elab.async false
set_option linter.all false
set_option maxRecDepth 100000
set_option maxHeartbeats 4000000
set_option pp.maxSteps 600
set_option pp.deepTerms false
/-! the law's own pinned program -/
namespace RM
open PySem PySem.Spec PyProof.Rows L2
section
variable {P : Program} {w : World} {K : PySem.W.Frag} {mg : Str → Option Value} {base : Heap}
def spLPut (K : PySem.W.Frag) (n : Nat) : Sp := fun vs H Q _ => match vs with
  | [b, p, y, o] => ∃ (l : List Stm) (pth : List Int) (na : Addr) (nm : NM), Dp K H b (.list (encB true l)) ∧ Dp K H p (pathD pth) ∧ y = .ref na ∧ H na = some (.dK (nK nm)) ∧ o = .non ∧ dB l ≤ n ∧ cB l ≤ 1000 ∧ pth.length + 2 * n ≤ 900 ∧
    ∀ v H', Same H H' → Dp K H' v (.tuple (encB false (pinB nm l))) → Q v H'
  | _ => False
theorem path_here {H : Hp} {a b : Addr} {p : List Int} {i : Int} {Q : VK} (ha : SqT K H a (p.map V.int)) (hb : SqT K H b [.int i]) (hl : p.length + 1 ≤ 1000)
    (q : ∀ v H', Same H H' → Dp K H' v (pathD (p ++ [i])) → Q v H') : CatG K (.ref a) (.ref b) H Q := path_snoc ha hb (Nat.le_of_lt (small1000 hl)) q
theorem sc_law_put : FnScope ["_law_body_here", "_law_path", "_law_names", "_law_only", "_law_found", "_law_k", "_law_one", "_law_here", "_law_parts"] ["_law_body_here", "_law_path", "_law_names", "_law_only"] (defScope s_law_put) := ⟨rfl, rfl, rfl, by decide +kernel, rfl, by decide +kernel, by decide +kernel⟩
theorem ok_law_put (T : Top w K mg) {n : Nat} (ih : Cal P w K mg base CX0 (n + 2) "_law_put" (spLPut K n)) : Cal P w K mg base CX0 (n + 3) "_law_put" (spLPut K (n + 1)) := by
  refine cal_0 (f_law_put T) (g_law_put T) sc_law_put (fun _ _ _ _ _ _ us hl => match us, hl with | [_, _, _, _], _ => rfl) (fun vs H Q E h => match vs, h with | [_, _, _, _], _ => rfl) (fun cdv A outer s H vs Q E hr h => ?_)
  match vs, h with
  | [b, p, y, o], h =>
  obtain ⟨l, pth, na, nm, hb, hp, rfl, hna, rfl, hn, hc, hpl, q⟩ := h
  obtain ⟨a, xs, rfl, ha, hx⟩ := Dp.lst_inv hb
  obtain ⟨pa, rfl, hpa⟩ := path_inv hp
  have lx : xs.length = l.length := by rw [DpAll.len hx, encB_map, List.length_map]
  have ll := cB_len l
  refine ⟨_, (pss_cons (ps_set (i := 4) sc_law_put.nd rfl (Or.inl rfl) (pe_lst pa_nil))
    (pss_cons (ps_for PassesOwn.never rfl (pi_range1 rfl (z_range T) (pa_cons (pcb (z_len T) call_len_seq boot_len (pa_cons (pv 0) pa_nil)) pa_nil)) (pg_name (i := 5) sc_law_put.nd rfl (Or.inl rfl))
      (pss_cons (ps_set (i := 6) sc_law_put.nd rfl (Or.inl rfl) (pe_ix ix_any (pv 0) (pv 5) (fun _ _ => rfl)))
    (pss_cons (ps_set (i := 7) sc_law_put.nd rfl (Or.inl rfl) (pe_op op_catG (pv 1) (pe_tup (pa_cons (pv 5) pa_nil))))
    (pss_one (ps_if (PW.pt (pw_and (pt_cmpR op_eq (pe_ix ix_tup (pv 6) pe_int (fun _ _ => rfl)) pe_str (nomark _)) (pw_and (pt_cmp (pc_din (hu_of hr) (pe_ix ix_tup (pv 6) pe_int (fun _ _ => rfl)) (pv 2))) (pw_and1 (PW.pt (pw_or (pt_cmp (pc_isN (pv 3)) rfl) (pw_or1 (pt_cmpR (op_eqD (room64 hr)) (pv 3) (pv 7) (nomark _)))))))))
      (pss_one (ps_expr (pe_bm PySem.F.plainAttrs_list PySem.F.slot_list_append PySem.F.type_list_append mt_append (pv 4) (pa_cons (pe_tup (pa_cons pe_str (pa_cons (pe_ix ix_tup (pv 6) pe_int (fun _ _ => rfl)) (pa_cons (pe_dget (hu_of hr) (pv 2) (pe_ix ix_tup (pv 6) pe_int (fun _ _ => rfl)) (fun _ _ => rfl)) pa_nil)))) pa_nil))))
      (pss_one (ps_if (pt_cmpR op_eq (pe_ix ix_tup (pv 6) pe_int (fun _ _ => rfl)) pe_str (nomark _))
      (pss_one (ps_expr (pe_bm PySem.F.plainAttrs_list PySem.F.slot_list_append PySem.F.type_list_append mt_append (pv 4) (pa_cons (pe_tup (pa_cons pe_str (pa_cons (pe_ix ix_tup (pv 6) pe_int (fun _ _ => rfl)) (pa_cons (pc ih hr (pa_cons (pe_ix ix_tup (pv 6) pe_int (fun _ _ => rfl)) (pa_cons (pe_op op_catG (pv 7) (pe_tup (pa_cons pe_int pa_nil))) (pa_cons (pv 2) (pa_cons (pv 3) pa_nil))))) pa_nil)))) pa_nil))))
      (pss_one (ps_if (PW.pt (pw_or (pt_cmpR op_eq (pe_ix ix_tup (pv 6) pe_int (fun _ _ => rfl)) pe_str (nomark _)) (pw_or1 (pt_cmpR op_eq (pe_ix ix_tup (pv 6) pe_int (fun _ _ => rfl)) pe_str (nomark _)))))
      (pss_cons (ps_set (i := 8) sc_law_put.nd rfl (Or.inl rfl) (pe_tup (pa_cons (pc ih hr (pa_cons (pe_ix ix_tup (pv 6) pe_int (fun _ _ => rfl)) (pa_cons (pe_op op_catG (pv 7) (pe_tup (pa_cons pe_int pa_nil))) (pa_cons (pv 2) (pa_cons (pv 3) pa_nil))))) (pa_cons (pc ih hr (pa_cons (pe_ix ix_tup (pv 6) pe_int (fun _ _ => rfl)) (pa_cons (pe_op op_catG (pv 7) (pe_tup (pa_cons pe_int pa_nil))) (pa_cons (pv 2) (pa_cons (pv 3) pa_nil))))) pa_nil))))
    (pss_one (ps_expr (pe_bm PySem.F.plainAttrs_list PySem.F.slot_list_append PySem.F.type_list_append mt_append (pv 4) (pa_cons (pe_op op_catG (pe_slice sl_tup (pv 6) po_none (po_some pe_int)) (pv 8)) pa_nil)))))
      (pss_one (ps_expr (pe_bm PySem.F.plainAttrs_list PySem.F.slot_list_append PySem.F.type_list_append mt_append (pv 4) (pa_cons (pv 6) pa_nil)))))))))))))
    (pss_one (ps_ret (pct (z_tuple T) call_tuple_of boot_tuple (pa_cons (pv 4) pa_nil)))))), ?_⟩
  refine ⟨(by show 0 ≤ sizeLine; decide), fun fd nfd => ?_⟩
  have s0 := smNew1 nfd (.lst [])
  refine ⟨_, rfl, a, _, rfl, .inl (s0.seq ha), _, rfl, by omega, by omega, ?_⟩
  rw [show ((xs.length : Nat) : Int).toNat = l.length from lx]
  refine for_it (walk_range (lo := 0) (n := l.length)) (fun i σ H' => Same H H' ∧ (∃ acc, H' fd = some (.lst acc) ∧ DpAll K H' acc (encB false (pinB nm (l.take i)))) ∧ ∃ v5 v6 v7 v8, σ = [some (.ref a), some (.ref pa), some (.ref na), some .non, some (.ref fd), v5, v6, v7, v8])
    ⟨s0, ⟨[], upd_same, by rw [List.take_zero]; exact .nil⟩, _, _, _, _, rfl⟩ (fun _ _ _ _ _ => trivial) ?_ ?_
  · rintro i x σ H1 H1' hi ⟨s1, ⟨acc, hacc, hdp⟩, v5, v6, v7, v8, rfl⟩ ⟨rfl, rfl⟩
    obtain ⟨z, hz⟩ : ∃ z, xs[i]? = some z := ⟨_, List.getElem?_eq_getElem (by omega)⟩
    obtain ⟨d, hd1, hd2⟩ := DpAll.getV hx hz
    obtain ⟨st, hst, rfl⟩ := encB_get hd1
    have hm : st ∈ l := List.mem_of_getElem? hst
    have dm := dB_mem hm
    have cm := cB_mem hm
    obtain ⟨sa, sxs, rfl, hsa, hsx⟩ := shape_of hd2
    refine ⟨_, rfl, _, rfl, a, _, _, .ref sa, rfl, rfl, .inl (s1.seq ha), atI_nat0 hz, ?_⟩
    rw [show (fun i : Nat => V.int (0 + (i : Int))) i = V.int (i : Nat) from congrArg V.int (Int.zero_add _)]
    refine ⟨_, rfl, _, rfl, (by show 1 ≤ sizeLine; decide), fun p1 hp1 => ?_⟩
    have s3 := s1.trans (smNew1 hp1 (.tup [.int (i : Nat)]))
    refine path_here (smT s3 hpa) (SqT.of upd_same) (by omega) fun here H3 s4 hh => ?_
    have e23 := (smNew1 hp1 (.tup [.int (i : Nat)])).trans s4
    have s13 := s3.trans s4
    have hacc3 := e23 _ _ hacc
    have hdp3 := DpAll.keep e23 hdp
    have hsa3 := smT s13 hsa
    have hsx3 := DpAll.keep s13 hsx
    have hna3 := s13 _ _ hna
    obtain ⟨ha_, rfl, hha⟩ := path_inv hh
    have lacc : acc.length = i := by rw [DpAll.len hdp, encB_map, List.length_map, pinB_map, List.length_map, List.length_take]; omega
    have fin : ∀ (H4 : Hp) (x : V) (v8 : Option V), Same H3 H4 → Dp K H4 x (encS false (pinS nm st)) → rAppend (.ref fd) [x] H4 fun _ H5 => (fun σ H' => Same H H' ∧ (∃ acc, H' fd = some (.lst acc) ∧ DpAll K H' acc (encB false (pinB nm (l.take (i + 1))))) ∧ ∃ v5 v6 v7 v8, σ = [some (.ref a), some (.ref pa), some (.ref na), some .non, some (.ref fd), v5, v6, v7, v8]) [some (.ref a), some (.ref pa), some (.ref na), some .non, some (.ref fd), some (.int (i : Nat)), some (.ref sa), some (.ref ha_), v8] H5 := fun H4 x v8 e hxd => by
      have hacc4 := e _ _ hacc3
      refine ⟨fd, acc, x, rfl, rfl, hacc4, small1000 (by omega), ?_⟩
      have ts := ts_upd (K := K) (.lst (acc ++ [x])) hacc4 trivial
      refine ⟨smOut (s13.trans e) nfd _, ⟨acc ++ [x], upd_same, ?_⟩, _, _, _, _, rfl⟩
      have e1 : pinB nm (l.take (i + 1)) = pinB nm (l.take i) ++ [pinS nm st] := by rw [pinB_map, pinB_map, take_more hst, List.map_append]; rfl
      rw [e1, encB_app]
      exact DpAll.app (dps_ts ts (DpAll.keep e hdp3) (noL_encB _)) (.cons (dp_ts ts hxd (noL_encS _)) .nil)
    have down : ∀ (H4 : Hp) (c : Int) (bd : List Stm) (y : V) (R : V → Hp → Prop), bd ∈ st.bodies → Same H3 H4 → Dp K H4 y (.list (encB true bd)) → (∀ v H', Same H4 H' → Dp K H' v (.tuple (encB false (pinB nm bd))) → R v H') →
        ∀ (H5 : Hp) (v6 : V), Same H4 H5 → Dp K H5 v6 (pathD ((pth ++ [(i : Int)]) ++ [c])) → spLPut K n [y, v6, .ref na, .non] H5 R E0 := fun H4 c bd y R hbd e4 hy k H5 v6 e5 hv6 => by
      have d2 := dS_mem hbd
      have c2 := cS_mem hbd
      exact ⟨bd, _, na, nm, Dp.keep e5 hy, hv6, rfl, e5 _ _ (e4 _ _ hna3), rfl, by omega, by omega, by rw [List.length_append, List.length_append, List.length_singleton, List.length_singleton]; omega, fun v H' e => k v H' (e5.trans e)⟩
    by_cases hmap : ∃ v k x, st = .read v k ∧ nmGet nm k = some x
    · obtain ⟨v, k, x, rfl, hk⟩ := hmap
      obtain ⟨v1, r3, rfl, g1, g2⟩ := DpAll.cons_inv hsx3
      obtain ⟨v2, r4, rfl, g3, g4⟩ := DpAll.cons_inv g2
      obtain rfl := DpAll.nil_inv g4
      obtain rfl := Dp.str_inv g1
      obtain rfl := Dp.str_inv g3
      refine ⟨_, rfl, _, _, _, _, rfl, rfl, hsa3, at0, rfl, _, rfl, ifT (by rfl) ?_⟩
      refine ⟨_, rfl, _, _, _, _, rfl, rfl, hsa3, at2, _, rfl, na, _, rfl, .inl ⟨nK nm, .inr k, .of hna3, rfl, rfl⟩, _, rfl, ?_⟩
      rw [valV_nK, hk]
      refine ifT (by rfl) ?_
      refine ⟨_, rfl, _, rfl, ifT (by rfl) ?_⟩
      refine ⟨_, rfl, .inl ⟨rfl, _, SqL.of hacc3⟩, _, rfl, _, _, _, _, rfl, rfl, hsa3, at1, _, rfl, _, rfl, _, _, _, _, rfl, rfl, hsa3, at2, na, .str x, rfl, .inl ⟨nK nm, .inr k, .of hna3, rfl, by rw [valV_nK, hk]; rfl⟩, (by show 3 ≤ sizeLine; decide), fun t4 ht4 => ?_⟩
      refine fin _ (.ref t4) _ (smNew1 ht4 _) ?_
      rw [pinS, hk]
      exact .tup (SqT.of upd_same) (.cons (.str _) (.cons (.str _) (.cons (.str _) .nil)))
    have no : ∀ v k x, st = .read v k → nmGet nm k = some x → False := fun v k x e h => hmap ⟨v, k, x, e, h⟩
    refine ⟨_, rfl, _, _, _, _, rfl, rfl, hsa3, at0, rfl, _, rfl, ifBoth ?_ (fun hw hB => ?_)⟩
    case refine_2 =>
      obtain ⟨v, k, rfl⟩ := (word_read st).mp (V.str.inj (of_decide_eq_true hw))
      obtain ⟨v1, r3, rfl, g1, g2⟩ := DpAll.cons_inv hsx3
      obtain ⟨v2, r4, rfl, g3, g4⟩ := DpAll.cons_inv g2
      obtain rfl := Dp.str_inv g3
      refine ⟨_, rfl, _, _, _, _, rfl, rfl, hsa3, at2, _, rfl, na, _, rfl, .inl ⟨nK nm, .inr k, .of hna3, rfl, rfl⟩, _, rfl, ?_⟩
      rw [valV_nK]
      cases e : nmGet nm k with
      | some x => exact (no v k x rfl e).elim
      | none => exact ifF (by rfl) hB
    have plain : st.bodies = [] → st.word ≠ "repeat" → st.word ≠ "if" → st.word ≠ "same" → Dp K H3 (.ref sa) (encS false (pinS nm st)) := fun hb _ _ _ => by
      rw [pin_none nm hb no, encS_eq, hb]
      rw [hb] at hsx3
      exact .tup hsa3 (.cons (.str _) hsx3)
    cases st with
    | rep m bd =>
      obtain ⟨v1, r3, rfl, g1, g2⟩ := DpAll.cons_inv hsx3
      obtain ⟨v2, r4, rfl, g3, g4⟩ := DpAll.cons_inv g2
      obtain rfl := DpAll.nil_inv g4
      obtain rfl := Dp.int_inv g1
      refine ⟨_, rfl, _, _, _, _, rfl, rfl, hsa3, at0, rfl, _, rfl, ifT (by rfl) ?_⟩
      refine ⟨_, rfl, .inl ⟨rfl, _, SqL.of hacc3⟩, ?_⟩
      refine ⟨_, rfl, _, _, _, _, rfl, rfl, hsa3, at1, ?_⟩
      refine ⟨_, rfl, _, _, _, _, rfl, rfl, hsa3, at2, ?_⟩
      refine ⟨_, rfl, (by show 1 ≤ sizeLine; decide), fun p5 hp5 => ?_⟩
      have e5 := smNew1 hp5 (.tup [.int 0])
      refine path_here (smT e5 hha) (SqT.of upd_same) (by rw [List.length_append, List.length_singleton]; omega) fun here2 H5 e6 hh2 => ?_
      refine ⟨_, rfl, _, rfl, down H3 0 bd v2 _ (by simp [Stm.bodies]) (Same.refl _) g3 (fun v H6 e7 hv => ?_) H5 here2 (e5.trans e6) hh2⟩
      refine ⟨(by show 3 ≤ sizeLine; decide), fun t4 ht4 => ?_⟩
      refine fin _ (.ref t4) _ (smNew e7 ht4 _) ?_
      rw [pinS]
      exact .tup (SqT.of upd_same) (.cons (.str _) (.cons (.int _) (.cons (Dp.keep (smNew1 ht4 _) hv) .nil)))
    | ite v m b1 b2 =>
      obtain ⟨v1, r3, rfl, g1, g2⟩ := DpAll.cons_inv hsx3
      obtain ⟨v2, r4, rfl, g3, g4⟩ := DpAll.cons_inv g2
      obtain ⟨v3, r5, rfl, g5, g6⟩ := DpAll.cons_inv g4
      obtain ⟨v4, r6, rfl, g7, g8⟩ := DpAll.cons_inv g6
      obtain rfl := DpAll.nil_inv g8
      refine ⟨_, rfl, _, _, _, _, rfl, rfl, hsa3, at0, rfl, _, rfl, ifF (by rfl) ?_⟩
      refine ⟨_, rfl, _, _, _, _, rfl, rfl, hsa3, at0, rfl, _, rfl, ifT (by rfl) ?_⟩
      refine ⟨_, rfl, _, _, _, _, rfl, rfl, hsa3, at3, ?_⟩
      refine ⟨_, rfl, (by show 1 ≤ sizeLine; decide), fun p5 hp5 => ?_⟩
      have e5 := smNew1 hp5 (.tup [.int 0])
      refine path_here (smT e5 hha) (SqT.of upd_same) (by rw [List.length_append, List.length_singleton]; omega) fun here2 H5 e6 hh2 => ?_
      refine ⟨_, rfl, _, rfl, down H3 0 b1 v3 _ (by simp [Stm.bodies]) (Same.refl _) g5 (fun w1 H6 e7 hw1 => ?_) H5 here2 (e5.trans e6) hh2⟩
      refine ⟨_, rfl, _, _, _, _, rfl, rfl, smT e7 hsa3, at4, ?_⟩
      refine ⟨_, rfl, (by show 1 ≤ sizeLine; decide), fun p8 hp8 => ?_⟩
      have e8 := smNew1 hp8 (.tup [.int 1])
      refine path_here (smT (e7.trans e8) hha) (SqT.of upd_same) (by rw [List.length_append, List.length_singleton]; omega) fun here3 H8 e9 hh3 => ?_
      refine ⟨_, rfl, _, rfl, down H6 1 b2 v4 _ (by simp [Stm.bodies]) e7 (Dp.keep e7 g7) (fun w2 H9 e10 hw2 => ?_) H8 here3 (e8.trans e9) hh3⟩
      refine ⟨(by show 2 ≤ sizeLine; decide), fun t4 ht4 => ?_⟩
      have e11 := smNew1 ht4 (.tup [w1, w2])
      have e12 := e7.trans (e10.trans e11)
      refine ⟨_, rfl, .inl ⟨rfl, _, SqL.of (e12 _ _ hacc3)⟩, ?_⟩
      refine ⟨_, rfl, 3, rfl, sa, _, rfl, smT e12 hsa3, ?_, fun p6 hp6 => ?_⟩
      · intro zz
        have := zz.2
        rw [show (some (3 : Int)) = some ((3 : Nat) : Int) from rfl, HT.sIx_nat] at this
        simp only [List.length_cons, List.length_nil] at this
        omega
      rw [show (some (3 : Int)) = some ((3 : Nat) : Int) from rfl, cutL_pre _ _ (by simp only [List.length_cons, List.length_nil]; omega)]
      have e13 := smNew1 hp6 (.tup ([V.str "if", v1, v2, v3, v4].take 3))
      refine ⟨_, rfl, catA_of (SqT.of upd_same) (smT e13 (SqT.of upd_same)) (by show 3 + 2 ≤ sizeLine; decide) fun tt H10 e14 htt => ?_⟩
      have e15 := e12.trans (e13.trans e14)
      refine fin H10 (.ref tt) _ e15 ?_
      rw [pinS]
      have k1 := (e10.trans e11).trans (e13.trans e14)
      exact .tup htt (.cons (.str _) (.cons (Dp.keep e15 g1) (.cons (Dp.keep e15 g3) (.cons (Dp.keep k1 hw1) (.cons (Dp.keep (e11.trans (e13.trans e14)) hw2) .nil)))))
    | same v m b1 b2 =>
      obtain ⟨v1, r3, rfl, g1, g2⟩ := DpAll.cons_inv hsx3
      obtain ⟨v2, r4, rfl, g3, g4⟩ := DpAll.cons_inv g2
      obtain ⟨v3, r5, rfl, g5, g6⟩ := DpAll.cons_inv g4
      obtain ⟨v4, r6, rfl, g7, g8⟩ := DpAll.cons_inv g6
      obtain rfl := DpAll.nil_inv g8
      refine ⟨_, rfl, _, _, _, _, rfl, rfl, hsa3, at0, rfl, _, rfl, ifF (by rfl) ?_⟩
      refine ⟨_, rfl, _, _, _, _, rfl, rfl, hsa3, at0, rfl, _, rfl, ifF (by rfl) ?_⟩
      refine ⟨_, rfl, _, _, _, _, rfl, rfl, hsa3, at0, rfl, _, rfl, ifT (by rfl) ?_⟩
      refine ⟨_, rfl, _, _, _, _, rfl, rfl, hsa3, at3, ?_⟩
      refine ⟨_, rfl, (by show 1 ≤ sizeLine; decide), fun p5 hp5 => ?_⟩
      have e5 := smNew1 hp5 (.tup [.int 0])
      refine path_here (smT e5 hha) (SqT.of upd_same) (by rw [List.length_append, List.length_singleton]; omega) fun here2 H5 e6 hh2 => ?_
      refine ⟨_, rfl, _, rfl, down H3 0 b1 v3 _ (by simp [Stm.bodies]) (Same.refl _) g5 (fun w1 H6 e7 hw1 => ?_) H5 here2 (e5.trans e6) hh2⟩
      refine ⟨_, rfl, _, _, _, _, rfl, rfl, smT e7 hsa3, at4, ?_⟩
      refine ⟨_, rfl, (by show 1 ≤ sizeLine; decide), fun p8 hp8 => ?_⟩
      have e8 := smNew1 hp8 (.tup [.int 1])
      refine path_here (smT (e7.trans e8) hha) (SqT.of upd_same) (by rw [List.length_append, List.length_singleton]; omega) fun here3 H8 e9 hh3 => ?_
      refine ⟨_, rfl, _, rfl, down H6 1 b2 v4 _ (by simp [Stm.bodies]) e7 (Dp.keep e7 g7) (fun w2 H9 e10 hw2 => ?_) H8 here3 (e8.trans e9) hh3⟩
      refine ⟨(by show 2 ≤ sizeLine; decide), fun t4 ht4 => ?_⟩
      have e11 := smNew1 ht4 (.tup [w1, w2])
      have e12 := e7.trans (e10.trans e11)
      refine ⟨_, rfl, .inl ⟨rfl, _, SqL.of (e12 _ _ hacc3)⟩, ?_⟩
      refine ⟨_, rfl, 3, rfl, sa, _, rfl, smT e12 hsa3, ?_, fun p6 hp6 => ?_⟩
      · intro zz
        have := zz.2
        rw [show (some (3 : Int)) = some ((3 : Nat) : Int) from rfl, HT.sIx_nat] at this
        simp only [List.length_cons, List.length_nil] at this
        omega
      rw [show (some (3 : Int)) = some ((3 : Nat) : Int) from rfl, cutL_pre _ _ (by simp only [List.length_cons, List.length_nil]; omega)]
      have e13 := smNew1 hp6 (.tup ([V.str "same", v1, v2, v3, v4].take 3))
      refine ⟨_, rfl, catA_of (SqT.of upd_same) (smT e13 (SqT.of upd_same)) (by show 3 + 2 ≤ sizeLine; decide) fun tt H10 e14 htt => ?_⟩
      have e15 := e12.trans (e13.trans e14)
      refine fin H10 (.ref tt) _ e15 ?_
      rw [pinS]
      have k1 := (e10.trans e11).trans (e13.trans e14)
      exact .tup htt (.cons (.str _) (.cons (Dp.keep e15 g1) (.cons (Dp.keep e15 g3) (.cons (Dp.keep k1 hw1) (.cons (Dp.keep (e11.trans (e13.trans e14)) hw2) .nil)))))
    | _ =>
      refine ⟨_, rfl, _, _, _, _, rfl, rfl, hsa3, at0, rfl, _, rfl, ifF (by rfl) ?_⟩
      refine ⟨_, rfl, _, _, _, _, rfl, rfl, hsa3, at0, rfl, _, rfl, ifF (by rfl) ?_⟩
      refine ⟨_, rfl, _, _, _, _, rfl, rfl, hsa3, at0, rfl, _, rfl, ifF (by rfl) ?_⟩
      refine ⟨_, rfl, .inl ⟨rfl, _, SqL.of hacc3⟩, _, rfl, ?_⟩
      exact fin H3 (.ref sa) _ (Same.refl _) (plain rfl (by simp only [Stm.word]; decide) (by simp only [Stm.word]; decide) (by simp only [Stm.word]; decide))
  · rintro σ H1 ⟨s1, ⟨acc, hacc, hdp⟩, v5, v6, v7, v8, rfl⟩
    rw [List.take_length] at hdp
    refine ⟨_, rfl, fd, _, rfl, .inl ⟨SqL.of hacc, fun r hr => ?_⟩⟩
    exact q _ _ (smNew s1 hr _) (.tup (SqT.of upd_same) (DpAll.keep (smNew1 hr _) hdp))
theorem c_law_put (T : Top w K mg) : ∀ n, Cal P w K mg base CX0 (n + 2) "_law_put" (spLPut K n)
  | 0 => cal_never (f_law_put T) (g_law_put T) (ps := ["_law_body_here", "_law_path", "_law_names", "_law_only"]) (fun _ _ _ _ _ _ us hl => match us, hl with | [_, _, _, _], _ => rfl) fun vs H Q E h => by
      match vs, h with
      | [b, p, y, o], h =>
      obtain ⟨l, _, _, _, _, _, _, _, _, hn, _⟩ := h
      have := dB_one l
      omega
  | n + 1 => ok_law_put T (c_law_put T n)
end
end RM

set_option Elab.async false
set_option linter.all false
set_option maxRecDepth 100000
set_option maxHeartbeats 4000000
set_option pp.maxSteps 600
set_option pp.deepTerms false
namespace RM
open PySem PySem.Spec PyProof.Rows L2
section
variable {P : Program} {w : World} {K : PySem.W.Frag} {mg : Str → Option Value} {base : Heap}
def spFrozen (K : PySem.W.Frag) : Sp := fun vs H Q _ => match vs with
  | [x, y] => ∃ a l b m, x = .ref a ∧ y = .ref b ∧ PrgAt K H a l ∧ wB l = true ∧ dB l ≤ 4 ∧ cB l ≤ 60 ∧ SurAt K H b m ∧ kB (wKeys m) l = true ∧
    ∀ pt H', Same H H' → SqT K H' pt ((froz l m).map V.int) → Q (.ref pt) H'
  | _ => False
theorem sc_frozen : FnScope ["program", "surroundings"] ["program", "surroundings"] (defScope s_frozen) := ⟨rfl, rfl, rfl, by decide +kernel, rfl, by decide +kernel, by decide +kernel⟩
theorem c_frozen (T : Top w K mg) : Cal P w K mg base CX0 21 "frozen" (spFrozen K) := by
  refine cal_0 (f_frozen T) (g_frozen T) sc_frozen (fun _ _ _ _ _ _ us hl => match us, hl with | [_, _], _ => rfl) (fun vs H Q E h => match vs, h with | [_, _], _ => rfl) (fun cdv A outer s H vs Q E hr h => ?_)
  match vs, h with
  | [x, y], h =>
  obtain ⟨a, l, b, m, rfl, rfl, pa, wl, dl, cl, sb, kl, q⟩ := h
  refine ⟨_, (pss_one (ps_ret (pe_fld (pcD (c_run2 T).calm hr (pa_cons (pv 0) (pa_cons (pv 1) pa_nil))) rfl))), ?_⟩
  refine ⟨_, rfl, _, rfl, a, l, b, m, _, [], [], _, [], [], rfl, rfl, rfl, rfl, pa, wl, dl, cl, sb, dfl0 T H, .nil, dfl1 T H, .nil, by decide, fun ks hks => ?_⟩
  have lk : lackA m ks [] = none := by
    unfold lackA
    rw [lackL_none (reads_in kl hks)]
    rfl
  refine ⟨fun _ _ o H1 e1 no out => ?_, fun k hk => (by rw [lk] at hk; cases hk), fun _ i hi => (by cases hi)⟩
  obtain ⟨dq, pt, wl1, ll1, pl1, ws1, ls1, ho1, hpt1, _⟩ := out
  exact ⟨o, _, dq, _, _, rfl, ho1, k_Outcome T, na_Outcome_printed T, rfl, q pt H1 e1 hpt1⟩
end
end RM

set_option Elab.async false
set_option linter.all false
set_option maxRecDepth 100000
set_option maxHeartbeats 4000000
set_option pp.maxSteps 600
set_option pp.deepTerms false
namespace RM
open PySem PySem.Spec PyProof.Rows L2
section
variable {P : Program} {w : World} {K : PySem.W.Frag} {mg : Str → Option Value} {base : Heap}
/-- the program's own things for a case -/
structure MadeAt (K : PySem.W.Frag) (H : Hp) (m : Addr) (l : List Stm) (vm : WM) (gs : List WM) : Prop where
  at_ : ∃ pr su chl cas, H m = some (.lst [.ref pr, .ref su, .ref chl]) ∧ PrgAt K H pr l ∧ SurAt K H su vm ∧ H chl = some (.lst (cas.map V.ref)) ∧ Paired (fun c g => ChgAt K H c g) cas gs
/-- a case of which less is known -/
structure CaseW (K : PySem.W.Frag) (H : Hp) (r : Addr) (vm : WM) (l : List Stm) (gs : List WM) : Prop where
  at_ : ∃ va bl cl ys cv, H r = some (.lst [.ref va, .ref bl, .ref cl]) ∧ H va = some (.dK (mK vm)) ∧ H bl = some (.lst ys) ∧ DpAll K H ys (encB true l) ∧ H cl = some (.lst (cv.map V.ref)) ∧ Paired (fun c g => H c = some (.dK (mK g))) cv gs
  ov : okV vm
  og : ∀ g ∈ gs, okM g ∧ g.length ≤ 4
  lg : gs.length ≤ 10
  wl : wB l = true
  dl : dB l ≤ 4
  cl : cB l ≤ 60
theorem CaseAt.weak {H : Hp} {r : Addr} {vm : WM} {l : List Stm} {gs : List WM} (h : CaseAt K H r vm l gs) : CaseW K H r vm l gs :=
  ⟨h.at_, h.ov, fun g hg => ⟨(h.og g hg).1, by have := (h.og g hg).2.2; omega⟩, by have := h.lg; omega, h.wl, by have := h.dl; omega, by have := h.cl; omega⟩
def spMadeW (K : PySem.W.Frag) : Sp := fun vs H Q _ => match vs with
  | [x] => ∃ r vm l gs, x = .ref r ∧ CaseW K H r vm l gs ∧
    ∀ m pr su chl cas vm' gs' H', Same H H' → H m = none → H' m = some (.lst [.ref pr, .ref su, .ref chl]) → PrgAt K H' pr l → SurAt K H' su vm' → vm'.Perm vm → H chl = none → H' chl = some (.lst (cas.map V.ref)) → Paired (fun c g => ChgAt K H' c g) cas gs' → Paired (fun g' g => g'.Perm g) gs' gs → Q (.ref m) H'
  | _ => False
def spMade (K : PySem.W.Frag) : Sp := fun vs H Q _ => match vs with
  | [x] => ∃ r vm l gs, x = .ref r ∧ CaseAt K H r vm l gs ∧
    ∀ m pr su chl cas vm' gs' H', Same H H' → H m = none → H' m = some (.lst [.ref pr, .ref su, .ref chl]) → PrgAt K H' pr l → SurAt K H' su vm' → vm'.Perm vm → H chl = none → H' chl = some (.lst (cas.map V.ref)) → Paired (fun c g => ChgAt K H' c g) cas gs' → Paired (fun g' g => g'.Perm g) gs' gs → Q (.ref m) H'
  | _ => False
theorem sc_law_made : FnScope ["_law_case_here", "_law_given"] ["_law_case_here"] (defScope s_law_made) := ⟨rfl, rfl, rfl, by decide +kernel, rfl, by decide +kernel, by decide +kernel⟩
theorem c_law_madeW (T : Top w K mg) : Cal P w K mg base CX0 11 "_law_made" (spMadeW K) := by
  refine cal_0 (f_law_made T) (g_law_made T) sc_law_made (fun _ _ _ _ _ _ us hl => match us, hl with | [_], _ => rfl) (fun vs H Q E h => match vs, h with | [_], _ => rfl) (fun cdv A outer s H vs Q E hr h => ?_)
  match vs, h with
  | [x], h =>
  obtain ⟨r, vm, l, gs, rfl, ca, q⟩ := h
  obtain ⟨va, bl, cl, ys, cv, h1, h2, h3, h4, h5, h6⟩ := ca.at_
  refine ⟨_, (pss_one (ps_ret (pe_lst (pa_cons (pmk (c_Program_init T) hr (pa_cons (pe_ix ix_list (pv 0) pe_int (fun _ _ => rfl)) pa_nil)) (pa_cons (pmk (c_Surroundings_init T) hr (pa_cons (pe_ix ix_list (pv 0) pe_int (fun _ _ => rfl)) pa_nil)) (pa_cons (pe_lc (own := [("_law_given", 1)]) rfl sc_law_made.nd (pi_list (pe_ix ix_list (pv 0) pe_int (fun _ _ => rfl))) (blkOk_by (own := [("_law_given", 1)]) (N := ["_law_case_here", "_law_given"]) (sc := defScope s_law_made) (by decide +kernel)) (fun _ _ _ _ _ => (pg_name (i := 1) sc_law_made.nd rfl (Or.inl rfl) (Or.inr rfl))) (fun _ _ _ _ _ => pts_nil) (fun _ _ _ _ _ => (pmk (c_Change_init T) hr (pa_cons (pv 1) pa_nil)))) pa_nil)))))), ?_⟩
  -- Program(..)
  refine ⟨_, rfl, r, _, _, .ref bl, rfl, rfl, SqL.of h1, at1, ?_⟩
  intro pr dp hpr hdp hnp
  have mI := mk_in (C := He.ga K "Program") hpr hdp hnp
  refine ⟨pr, dp, true, l, rfl, upd_same, .lst (SqL.of (mI _ _ h3)) (DpAll.keep mI h4), ca.wl, by have := ca.dl; omega, by have := ca.cl; omega, fun H1 off1 pa => ⟨rfl, ?_⟩⟩
  have s1 := mk_sm (C := He.ga K "Program") (H' := H1) hpr hdp off1
  -- Surroundings(..)
  refine ⟨_, rfl, r, _, _, .ref va, rfl, rfl, SqL.of (s1 _ _ h1), at0, ?_⟩
  intro su ds hsu hds hns
  have mI2 := mk_in (C := He.ga K "Surroundings") hsu hds hns
  refine ⟨su, ds, va, vm, rfl, rfl, upd_same, mI2 _ _ (s1 _ _ h2), ca.ov.1, ca.ov.2.1, by have := ca.ov.2.2; omega, fun H2 vm' off2 mp pm => ⟨rfl, ?_⟩⟩
  have s2 := mk_sm (C := He.ga K "Surroundings") (H' := H2) hsu hds off2
  have s12 := s1.trans s2
  have sS : SurAt K H2 su vm' := ⟨mp, by rw [pm.length_eq]; exact ca.ov.2.1, by rw [pm.length_eq]; have := ca.ov.2.2; omega⟩
  -- the changes
  refine ⟨_, rfl, r, _, _, .ref cl, rfl, rfl, SqL.of (s12 _ _ h1), at2, ?_⟩
  refine ⟨cl, rfl, ⟨_, SqL.of (s12 _ _ h5)⟩, fun D nD => ?_⟩
  have lcv : cv.length = gs.length := h6.length
  refine lc_opt (walk_list (xs := cv.map V.ref)) (fun g y H => MadeOf K g y H) (fun i => gs[i]?) nD (small1000 (by rw [List.length_map]; have := ca.lg; omega)) (fun H' e => SqL.of (e _ _ (s12 _ _ h5)))
    (fun g y H H' ⟨c, g', h1, h2, h3⟩ e => ⟨c, g', h1, h2.keep e, h3⟩) (fun g y H l l' ⟨c, g', h1, h2, h3⟩ e => ⟨c, g', h1, h2.updL e, h3⟩) ?_ ?_
  · rintro i x HB HB' N hi eB ⟨rfl, hx⟩ hk _
    rw [List.getElem?_map] at hx
    obtain ⟨c, hcv, rfl⟩ := Option.map_eq_some_iff.mp hx
    obtain ⟨g, hg, hgc⟩ := paired_at h6 hcv
    have og := ca.og g (List.mem_of_getElem? hg)
    refine ⟨rfl, yesI ?_⟩
    refine ⟨_, rfl, fun cx dx2 hcx hdx2 hne2 => ?_⟩
    have mI3 := mk_in (C := He.ga K "Change") hcx hdx2 hne2
    refine ⟨cx, dx2, c, g, rfl, rfl, upd_same, mI3 _ _ (eB _ _ (s12 _ _ hgc)), og.1, Nat.zero_le _, by have := og.2; omega, fun HC m3 off3 mp3 pm3 => ⟨rfl, ?_⟩⟩
    exact hk _ _ g hg (mk_sm hcx hdx2 off3) ⟨cx, m3, rfl, ⟨mp3, by rw [pm3.length_eq]; have := og.2; omega⟩, pm3⟩
  intro HB ysB eB hDB ppB
  rw [List.length_map, lcv, some_range] at ppB
  obtain ⟨cas, gs', rfl, ch, pr2⟩ := made_all ppB
  have s1B := s12.trans eB
  refine ⟨(by show 3 ≤ sizeLine; decide), fun m hm => ?_⟩
  have e3 := smNew1 hm (.lst [.ref pr, .ref su, .ref D])
  refine q m pr su D cas vm' gs' _ (s1B.trans e3) (s1B.free hm) upd_same (pa.keep ((s2.trans eB).trans e3)) (sS.keep (eB.trans e3)) pm (s12.free nD) (e3 _ _ hDB) (paired_mono ch fun _ _ z => z.keep e3) pr2
theorem c_law_made (T : Top w K mg) : Cal P w K mg base CX0 11 "_law_made" (spMade K) := (c_law_madeW T).imp fun vs H Q E h => by
  match vs, h with
  | [x], h =>
  obtain ⟨r, vm, l, gs, e, ca, q⟩ := h
  exact ⟨r, vm, l, gs, e, ca.weak, q⟩
end
end RM

set_option Elab.async false
set_option linter.all false
set_option maxRecDepth 100000
set_option maxHeartbeats 4000000
/-! rows of rows of numbers: data, equal to itself -/
namespace RM
open PySem PySem.Spec PyProof.Rows L2
theorem eqv_stD (s : List Int) : PyData.eqv (stD s) (stD s) = true := by
  show PyData.eqvAll _ _ = true
  rw [eqv_ints]
  exact decide_eq_true rfl
theorem eqv_stL (s : List Int) : PyData.eqv (stL s) (stL s) = true := by
  show PyData.eqvAll _ _ = true
  rw [eqv_ints]
  exact decide_eq_true rfl
theorem eqv_rows {f : List Int → PyData} (hf : ∀ s, PyData.eqv (f s) (f s) = true) : ∀ l : List (List Int), PyData.eqv (.list (l.map f)) (.list (l.map f)) = true := by
  intro l
  show PyData.eqvAll (l.map f) (l.map f) = true
  induction l with
  | nil => rfl
  | cons s r ih =>
    rw [List.map_cons, PyData.eqvAll, hf s, ih]
    rfl
theorem rows_dp {K : PySem.W.Frag} {H : Hp} : ∀ {its : List Addr} {plan : List (List Int)}, Paired (fun a (ns : List Int) => SqL K H a (ns.map V.int)) its plan → DpAll K H (its.map V.ref) (plan.map stL)
  | _, _, .nil => .nil
  | _, _, .cons h t => .cons (.lst h (ints_dps _)) (rows_dp t)
/-- where the schedule is empty the changes are not looked at -/
theorem wait_nil (cs cs' : List WM) (s : RS) : waitS ⟨cs, []⟩ s = waitS ⟨cs', []⟩ s := rfl
mutual
theorem goS_nil (cs cs' : List WM) : ∀ (st : Stm) (p : List Int) (s : RS), goS ⟨cs, []⟩ p st s = goS ⟨cs', []⟩ p st s
  | .read v k, p, s => by rw [goS, goS]
  | .set v n, p, s => by rw [goS, goS]
  | .copy v u, p, s => by rw [goS, goS]
  | .print v, p, s => by rw [goS, goS]
  | .say n, p, s => by rw [goS, goS]
  | .wait, p, s => by rw [goS, goS]; exact wait_nil cs cs' s
  | .stop, p, s => by rw [goS, goS]
  | .ite v n a b, p, s => by
    rw [goS, goS]
    show (if vOf s v = n then _ else _) = if vOf s v = n then _ else _
    rw [goB_nil cs cs' a, goB_nil cs cs' b]
  | .same v u a b, p, s => by
    rw [goS, goS]
    show (if vOf s v = vOf s u then _ else _) = if vOf s v = vOf s u then _ else _
    rw [goB_nil cs cs' a, goB_nil cs cs' b]
  | .rep n a, p, s => by
    rw [goS, goS]
    have e : goB ⟨cs, []⟩ (p ++ [0]) 0 a = goB ⟨cs', []⟩ (p ++ [0]) 0 a := funext fun s => goB_nil cs cs' a _ _ s
    show rept _ _ _ = rept _ _ _
    rw [e]
theorem goB_nil (cs cs' : List WM) : ∀ (l : List Stm) (p : List Int) (i : Nat) (s : RS), goB ⟨cs, []⟩ p i l s = goB ⟨cs', []⟩ p i l s
  | [], p, i, s => by rw [goB, goB]
  | st :: r, p, i, s => by
    rw [goB, goB]
    show goB ⟨cs, []⟩ p (i + 1) r (if s.stop = true then s else _) = goB ⟨cs', []⟩ p (i + 1) r (if s.stop = true then s else _)
    rw [goS_nil cs cs' st, goB_nil cs cs' r]
end
end RM

set_option Elab.async false
set_option linter.all false
set_option maxRecDepth 100000
set_option maxHeartbeats 4000000
/-! what a run keeps; how thin and deep what it tells is -/
namespace RM
open PySem PySem.Spec PyProof.Rows L2
section
variable {e : RE} {I : RS → Prop} {B : Nat}
/-- kept by each thing that a run does -/
structure Keeps (e : RE) (I : RS → Prop) (B : Nat) : Prop where
  hold : ∀ s v n, I s → I (holdS s v n)
  tell : ∀ s n, I s → I (tellS s n)
  see : ∀ s p k, p.length ≤ B → I s → I (seeS s p k)
  wait : ∀ s, I s → I (waitS e s)
  stop : ∀ s, I s → I (stopS s)
theorem rept_keeps {f : RS → RS} (hf : ∀ s, I s → I (f s)) : ∀ n s, I s → I (rept f n s)
  | 0, _, h => h
  | n + 1, s, h => hf _ (rept_keeps hf n s h)
mutual
theorem keeps_S (k : Keeps e I B) : ∀ (st : Stm) (p : List Int) (s : RS), p.length + 2 * dS st ≤ B → I s → I (goS e p st s)
  | .read v u, p, s, hp, h => by rw [goS]; exact k.see _ _ _ (by omega) (k.hold _ _ _ h)
  | .set v n, p, s, hp, h => by rw [goS]; exact k.hold _ _ _ h
  | .copy v u, p, s, hp, h => by rw [goS]; exact k.hold _ _ _ h
  | .print v, p, s, hp, h => by rw [goS]; exact k.tell _ _ h
  | .say n, p, s, hp, h => by rw [goS]; exact k.tell _ _ h
  | .wait, p, s, hp, h => by rw [goS]; exact k.wait _ h
  | .stop, p, s, hp, h => by rw [goS]; exact k.stop _ h
  | .ite v n a b, p, s, hp, h => by
    rw [dS] at hp
    rw [goS]
    show I (if vOf s v = n then goB e (p ++ [0]) 0 a s else goB e (p ++ [1]) 0 b s)
    split
    · exact keeps_B k a _ _ _ (by rw [List.length_append, List.length_singleton]; omega) h
    · exact keeps_B k b _ _ _ (by rw [List.length_append, List.length_singleton]; omega) h
  | .same v u a b, p, s, hp, h => by
    rw [dS] at hp
    rw [goS]
    show I (if vOf s v = vOf s u then goB e (p ++ [0]) 0 a s else goB e (p ++ [1]) 0 b s)
    split
    · exact keeps_B k a _ _ _ (by rw [List.length_append, List.length_singleton]; omega) h
    · exact keeps_B k b _ _ _ (by rw [List.length_append, List.length_singleton]; omega) h
  | .rep n a, p, s, hp, h => by
    rw [dS] at hp
    rw [goS]
    exact rept_keeps (fun s h => keeps_B k a _ _ s (by rw [List.length_append, List.length_singleton]; omega) h) _ _ h
theorem keeps_B (k : Keeps e I B) : ∀ (l : List Stm) (p : List Int) (i : Nat) (s : RS), p.length + 2 * dB l ≤ B + 1 → I s → I (goB e p i l s)
  | [], p, i, s, hp, h => by rw [goB]; exact h
  | st :: r, p, i, s, hp, h => by
    rw [dB] at hp
    rw [goB]
    refine keeps_B k r p (i + 1) _ (by omega) ?_
    show I (if s.stop = true then s else goS e (p ++ [(i : Int)]) st s)
    split
    · exact h
    · exact keeps_S k st _ s (by rw [List.length_append, List.length_singleton]; omega) h
end
end
/-- the surroundings' keys stay, each state tells a value of each, paths are short -/
structure Tame (e : RE) (ks : List Str) (B : Nat) (s : RS) : Prop where
  now : okM s.now
  keys : wKeys s.now = ks
  went : ∀ st ∈ s.went, st.length = ks.length ∧ ∀ u ∈ st, isValue u = true
  seen : ∀ q ∈ s.seen, q.1.length ≤ B
theorem vals_ok {m : WM} (h : okM m) : (wVals m).length = (wKeys m).length ∧ ∀ u ∈ wVals m, isValue u = true := by
  refine ⟨by unfold wVals wKeys; rw [List.length_map, List.length_map], fun u hu => ?_⟩
  obtain ⟨q, hq, rfl⟩ := List.mem_map.mp hu
  exact (h.1 q hq).2
theorem tame_ini {e : RE} {m : WM} {B : Nat} (h : okM m) : Tame e (wKeys m) B (iniS m) :=
  ⟨h, rfl, fun st hst => by rw [List.mem_singleton.mp hst]; exact vals_ok h, fun q hq => by cases hq⟩
theorem tame_fold {e : RE} {ks : List Str} {B : Nat} (E : EOk e ks) {it : List Int} (hi : it ∈ e.plan) : ∀ (jt : List Int) (s : RS), (∀ n ∈ jt, n ∈ it) → Tame e ks B s → Tame e ks B (jt.foldl (stepW e.cs) s)
  | [], s, _, h => h
  | n :: r, s, hj, h => by
    obtain ⟨g, _, eg, og, sub⟩ := chg_at E hi (hj n List.mem_cons_self)
    refine tame_fold E hi r (stepW e.cs s n) (fun x hx => hj x (List.mem_cons_of_mem _ hx)) ?_
    have on : okM (stepW e.cs s n).now := by
      show okM (wOver s.now (chg e.cs n))
      rw [eg]
      exact okM_over h.now og.1
    have kn : wKeys (stepW e.cs s n).now = ks := by
      show wKeys (wOver s.now (chg e.cs n)) = ks
      rw [eg, wKeys_over (by rw [h.keys]; exact sub), h.keys]
    refine ⟨on, kn, fun st hst => ?_, h.seen⟩
    rcases List.mem_append.mp hst with z | z
    · exact h.went st z
    · rw [List.mem_singleton.mp z]
      have := vals_ok on
      rw [kn] at this
      exact this
theorem tame_keeps {e : RE} {ks : List Str} {B : Nat} (E : EOk e ks) : Keeps e (Tame e ks B) B where
  hold := fun s v n h => ⟨h.now, h.keys, h.went, h.seen⟩
  tell := fun s n h => ⟨h.now, h.keys, h.went, h.seen⟩
  stop := fun s h => ⟨h.now, h.keys, h.went, h.seen⟩
  see := fun s p k hp h => ⟨h.now, h.keys, h.went, fun q hq => by
    rcases List.mem_append.mp hq with z | z
    · exact h.seen q z
    · rw [List.mem_singleton.mp z]
      exact hp⟩
  wait := fun s h => by
    have key : Tame e ks B ((itemAt e s).foldl (stepW e.cs) s) := by
      unfold itemAt
      cases hp : e.plan[s.waits]? with
      | none => exact h
      | some it => exact tame_fold E (List.mem_of_getElem? hp) it s (fun _ h => h) h
    exact ⟨key.now, key.keys, key.went, key.seen⟩
theorem rok_keeps {e : RE} {ks : List Str} {B : Nat} (E : EOk e ks) : Keeps e (ROk e ks) B where
  hold := fun s v n h => h.of
  tell := fun s n h => h.of
  stop := fun s h => h.of
  see := fun s p k hp h => h.of
  wait := fun s h => h.wait E
theorem went_1000 {gs : List WM} {plan : List (List Int)} {vm : WM} {l : List Stm} (E : EOk ⟨gs, plan⟩ (wKeys vm)) (ok : okM vm) (fl : plan.flatten.length ≤ 900) : (goB ⟨gs, plan⟩ [] 0 l (iniS vm)).went.length ≤ 1000 := by
  have h := keeps_B (rok_keeps (B := 2 * dB l) E) l [] 0 (iniS vm) (by show 0 + _ ≤ _; omega) ⟨ok, rfl, Nat.le_refl 1, by show 1 + plan.flatten.length ≤ 1000; omega⟩
  have := h.room
  omega
/-! ### no key is lacking, no number out of range -/
theorem lackA_no {l : List Stm} {vm : WM} {ks : List Str} {gs : List WM} (kl : kB (wKeys vm) l = true) (hks : RM.KeysOf ks ((readsOf l).map (·.2))) (hg : ∀ g ∈ gs, ∀ k ∈ wKeys g, k ∈ wKeys vm) : lackA vm ks gs = none := by
  unfold lackA
  have h2 : gs.findSome? (lack vm) = none := List.findSome?_eq_none_iff.mpr fun g hg' => List.find?_eq_none.mpr fun k hk => by simpa using hg g hg' k hk
  rw [lackL_none (reads_in kl hks), h2]
  rfl
theorem offP_no {n : Nat} {plan : List (List Int)} (h : ∀ it ∈ plan, ∀ i ∈ it, 0 ≤ i ∧ i < (n : Int)) : offP n plan = none := offP_none fun it hit => by
  unfold offI
  rw [List.any_eq_false]
  intro i hi
  obtain ⟨a, b⟩ := h it hit i hi
  rw [decide_eq_true a, decide_eq_true b]
  decide
end RM

set_option Elab.async false
set_option linter.all false
set_option maxRecDepth 100000
set_option maxHeartbeats 4000000
namespace RM
open PySem PySem.Spec PyProof.Rows L2
/-! ### _law_like -/
mutual
/-- no row is too long -/
def thin : PyData → Bool
  | .list xs => decide (xs.length ≤ 1000000) && thins xs
  | .tuple xs => decide (xs.length ≤ 1000000) && thins xs
  | _ => true
def thins : List PyData → Bool
  | [] => true
  | x :: xs => thin x && thins xs
end
theorem thins_get : ∀ {ds : List PyData}, thins ds = true → ∀ d ∈ ds, thin d = true
  | [], _, d, h => by simp at h
  | e :: r, n, d, h => by
    rw [thins, Bool.and_eq_true] at n
    rcases List.mem_cons.mp h with rfl | h
    · exact n.1
    · exact thins_get n.2 d h
theorem thins_of : ∀ {ds : List PyData}, (∀ d ∈ ds, thin d = true) → thins ds = true
  | [], _ => rfl
  | e :: r, h => by rw [thins, h e List.mem_cons_self, thins_of fun d hd => h d (List.mem_cons_of_mem _ hd)]; rfl
theorem depthAll_get : ∀ {ds : List PyData} {d : PyData}, d ∈ ds → d.depth ≤ PyData.depthAll ds
  | [], _, h => by simp at h
  | e :: r, d, h => by
    rw [PyData.depthAll]
    rcases List.mem_cons.mp h with rfl | h
    · exact Nat.le_max_left _ _
    · exact Nat.le_trans (depthAll_get h) (Nat.le_max_right _ _)
section
variable {P : Program} {w : World} {K : PySem.W.Frag} {mg : Str → Option Value} {base : Heap}
def spLike (K : PySem.W.Frag) (n : Nat) : Sp := fun vs H Q _ => match vs with
  | [x, y] => ∃ d, Dp K H x d ∧ Dp K H y d ∧ thin d = true ∧ d.depth < n ∧ ∀ H', Same H H' → Q (.bl true) H'
  | _ => False
theorem sc_law_like : FnScope ["_law_actual", "_law_due", "_law_k"] ["_law_actual", "_law_due"] (defScope s_law_like) := ⟨rfl, rfl, rfl, by decide +kernel, rfl, by decide +kernel, by decide +kernel⟩
theorem like_rows {H : Hp} {xs ys : List V} {ds : List PyData} (h1 : DpAll K H xs ds) (h2 : DpAll K H ys ds) (i : Nat) (hi : i < ds.length) : ∃ x y, xs[i]? = some x ∧ ys[i]? = some y ∧ Dp K H x ds[i] ∧ Dp K H y ds[i] := by
  obtain ⟨x, hx, dx⟩ := DpAll.get h1 (List.getElem?_eq_getElem hi)
  obtain ⟨y, hy, dy⟩ := DpAll.get h2 (List.getElem?_eq_getElem hi)
  exact ⟨x, y, hx, hy, dx, dy⟩
theorem ok_law_like (T : Top w K mg) {n : Nat} (ih : Cal P w K mg base CX0 (n + 1) "_law_like" (spLike K n)) : Cal P w K mg base CX0 (n + 2) "_law_like" (spLike K (n + 1)) := by
  refine cal_0 (f_law_like T) (g_law_like T) sc_law_like (fun _ _ _ _ _ _ us hl => match us, hl with | [_, _], _ => rfl) (fun vs H Q E h => match vs, h with | [_, _], _ => rfl) (fun cdv A outer s H vs Q E hr h => ?_)
  match vs, h with
  | [x, y], h =>
  obtain ⟨d, hx, hy, ht, hd, q⟩ := h
  have qq := q H (Same.refl H)
  refine ⟨_, (pss_cons (ps_if (pt_cmp (pc_isN (pv 1)) rfl)
      (pss_one (ps_ret (pe_cmp (pc_isN (pv 0)) rfl)))
      pss_nil)
    (pss_cons (ps_if (pt_val (pcb (z_isinstance T) call_isi boot_isinstance (pa_cons (pv 1) (pa_cons (pty (z_bool T) boot_bool) pa_nil))))
      (pss_one (ps_ret (pe_and (pcb (z_isinstance T) call_isi boot_isinstance (pa_cons (pv 0) (pa_cons (pty (z_bool T) boot_bool) pa_nil))) (pe_one (pe_cmpR op_eq (pv 0) (pv 1) (nomark _))))))
      pss_nil)
    (pss_cons (ps_if (pt_val (pcb (z_isinstance T) call_isi boot_isinstance (pa_cons (pv 1) (pa_cons (pty (z_int T) boot_int) pa_nil))))
      (pss_one (ps_ret (pe_and (pcb (z_isinstance T) call_isi boot_isinstance (pa_cons (pv 0) (pa_cons (pty (z_int T) boot_int) pa_nil))) (pe_and (pe_not (pcb (z_isinstance T) call_isi boot_isinstance (pa_cons (pv 0) (pa_cons (pty (z_bool T) boot_bool) pa_nil)))) (pe_one (pe_cmpR op_eq (pv 0) (pv 1) (nomark _)))))))
      pss_nil)
    (pss_cons (ps_if (pt_val (pcb (z_isinstance T) call_isi boot_isinstance (pa_cons (pv 1) (pa_cons (pty (z_str T) boot_str) pa_nil))))
      (pss_one (ps_ret (pe_and (pcb (z_isinstance T) call_isi boot_isinstance (pa_cons (pv 0) (pa_cons (pty (z_str T) boot_str) pa_nil))) (pe_one (pe_cmpR op_eq (pv 0) (pv 1) (nomark _))))))
      pss_nil)
    (pss_cons (ps_if (pt_val (pcb (z_isinstance T) call_isi boot_isinstance (pa_cons (pv 1) (pa_cons (pty (z_tuple T) boot_tuple) pa_nil))))
      (pss_one (ps_if (PW.pt (pw_or (pt_not (pt_val (pcb (z_isinstance T) call_isi boot_isinstance (pa_cons (pv 0) (pa_cons (pty (z_tuple T) boot_tuple) pa_nil))))) (pw_or1 (pt_cmpR op_ne (pcb (z_len T) call_len_seq boot_len (pa_cons (pv 0) pa_nil)) (pcb (z_len T) call_len_seq boot_len (pa_cons (pv 1) pa_nil)) (nomark _)))))
      (pss_one (ps_ret pe_bl))
      pss_nil))
      (pss_one (ps_if (PW.pt (pw_or (pt_not (pt_val (pcb (z_isinstance T) call_isi boot_isinstance (pa_cons (pv 0) (pa_cons (pty (z_list T) boot_list) pa_nil))))) (pw_or1 (pt_cmpR op_ne (pcb (z_len T) call_len_seq boot_len (pa_cons (pv 0) pa_nil)) (pcb (z_len T) call_len_seq boot_len (pa_cons (pv 1) pa_nil)) (nomark _)))))
      (pss_one (ps_ret pe_bl))
      pss_nil)))
    (pss_cons (ps_for PassesOwn.never rfl (pi_range1 rfl (z_range T) (pa_cons (pcb (z_len T) call_len_seq boot_len (pa_cons (pv 1) pa_nil)) pa_nil)) (pg_name (i := 2) sc_law_like.nd rfl (Or.inl rfl))
      (pss_one (ps_if (pt_not (pt_val (pc ih hr (pa_cons (pe_ix ix_any (pv 0) (pv 2) (fun _ _ => rfl)) (pa_cons (pe_ix ix_any (pv 1) (pv 2) (fun _ _ => rfl)) pa_nil)))))
      (pss_one (ps_ret pe_bl))
      pss_nil)))
    (pss_one (ps_ret pe_bl)))))))), ?_⟩
  cases d with
  | none =>
    cases hx
    cases hy
    exact ⟨_, rfl, _, rfl, ifT rfl ⟨_, rfl, qq⟩⟩
  | bool b =>
    cases hx
    cases hy
    refine ⟨_, rfl, _, rfl, ifF rfl ?_⟩
    refine ⟨_, rfl, _, _, _, _, true, rfl, .ty _, .base (.bl _), kit_ty (by decide +kernel), _, rfl, ifT rfl ?_⟩
    refine ⟨_, rfl, _, _, _, _, true, rfl, .ty _, .base (.bl _), kit_ty (by decide +kernel), _, rfl, ifT rfl ?_⟩
    exact ⟨_, rfl, _, rfl, rfl, qT (decide_eq_true rfl) qq⟩
  | int i =>
    cases hx
    cases hy
    refine ⟨_, rfl, _, rfl, ifF rfl ?_⟩
    refine ⟨_, rfl, _, _, _, _, false, rfl, .ty _, .base (.int _), kit_ty (by decide +kernel), _, rfl, ifF rfl ?_⟩
    refine ⟨_, rfl, _, _, _, _, true, rfl, .ty _, .base (.int _), kit_ty (by decide +kernel), _, rfl, ifT rfl ?_⟩
    refine ⟨_, rfl, _, _, _, _, true, rfl, .ty _, .base (.int _), kit_ty (by decide +kernel), _, rfl, ifT rfl ?_⟩
    refine ⟨_, rfl, _, _, _, _, false, rfl, .ty _, .base (.int _), kit_ty (by decide +kernel), _, rfl, _, rfl, ifT rfl ?_⟩
    exact ⟨_, rfl, _, rfl, rfl, qT (decide_eq_true rfl) qq⟩
  | str z =>
    cases hx
    cases hy
    refine ⟨_, rfl, _, rfl, ifF rfl ?_⟩
    refine ⟨_, rfl, _, _, _, _, false, rfl, .ty _, .base (.str _), kit_ty (by decide +kernel), _, rfl, ifF rfl ?_⟩
    refine ⟨_, rfl, _, _, _, _, false, rfl, .ty _, .base (.str _), kit_ty (by decide +kernel), _, rfl, ifF rfl ?_⟩
    refine ⟨_, rfl, _, _, _, _, true, rfl, .ty _, .base (.str _), kit_ty (by decide +kernel), _, rfl, ifT rfl ?_⟩
    refine ⟨_, rfl, _, _, _, _, true, rfl, .ty _, .base (.str _), kit_ty (by decide +kernel), _, rfl, ifT rfl ?_⟩
    exact ⟨_, rfl, _, rfl, rfl, qT (decide_eq_true rfl) qq⟩
  | dict kvs => cases hx
  | tuple ds =>
    obtain ⟨a, xs, rfl, ha, hxs⟩ := Dp.tup_inv hx
    obtain ⟨b, ys, rfl, hb, hys⟩ := Dp.tup_inv hy
    have l1 := DpAll.len hxs
    have l2 := DpAll.len hys
    have ht' : (decide (ds.length ≤ 1000000) && thins ds) = true := ht
    rw [Bool.and_eq_true] at ht'
    have lb := of_decide_eq_true ht'.1
    refine ⟨_, rfl, _, rfl, ifF rfl ?_⟩
    refine ⟨_, rfl, _, _, _, _, false, rfl, .ty _, tyT hb, kit_ty (by decide +kernel), _, rfl, ifF rfl ?_⟩
    refine ⟨_, rfl, _, _, _, _, false, rfl, .ty _, tyT hb, kit_ty (by decide +kernel), _, rfl, ifF rfl ?_⟩
    refine ⟨_, rfl, _, _, _, _, false, rfl, .ty _, tyT hb, kit_ty (by decide +kernel), _, rfl, ifF rfl ?_⟩
    refine ⟨_, rfl, _, _, _, _, true, rfl, .ty _, tyT hb, kit_ty (by decide +kernel), _, rfl, ifT rfl ?_⟩
    refine ⟨_, rfl, _, _, _, _, true, rfl, .ty _, tyT ha, kit_ty (by decide +kernel), _, rfl, ifF rfl ?_⟩
    refine ⟨_, rfl, a, xs, rfl, .inr ha, _, rfl, b, ys, rfl, .inr hb, rfl, _, rfl, ifF (by rw [l1, l2]; simp) ?_⟩
    refine ⟨_, rfl, b, ys, rfl, .inr hb, _, rfl, by omega, by omega, ?_⟩
    rw [show (((ys.length : Nat) : Int)).toNat = ys.length from rfl]
    refine for_it (walk_range (lo := 0) (n := ys.length)) (fun i σ H' => Same H H' ∧ ∃ v, σ = [some (.ref a), some (.ref b), v]) ⟨Same.refl H, none, rfl⟩ (fun _ _ _ _ _ => trivial) ?_ ?_
    · rintro i z σ H1 H2 hi ⟨s1, v, rfl⟩ ⟨rfl, rfl⟩
      obtain ⟨x1, y1, hx1, hy1, dx, dy⟩ := like_rows hxs hys i (by omega)
      refine ⟨_, rfl, _, rfl, a, xs, _, x1, rfl, rfl, .inr (smT s1 ha), atI_nat0 hx1, ?_⟩
      refine ⟨_, rfl, _, rfl, b, ys, _, y1, rfl, rfl, .inr (smT s1 hb), atI_nat0 hy1, ?_⟩
      have hm : ds[i]'(by omega) ∈ ds := List.getElem_mem _
      have := depthAll_get hm
      refine ⟨_, Dp.keep s1 dx, Dp.keep s1 dy, thins_get ht'.2 _ hm, by simp only [PyData.depth] at hd; omega, fun H3 s3 => ?_⟩
      exact ⟨_, rfl, ifF rfl ⟨s1.trans s3, _, rfl⟩⟩
    · rintro σ H1 ⟨s1, v, rfl⟩
      exact q H1 s1
  | list ds =>
    obtain ⟨a, xs, rfl, ha, hxs⟩ := Dp.lst_inv hx
    obtain ⟨b, ys, rfl, hb, hys⟩ := Dp.lst_inv hy
    have l1 := DpAll.len hxs
    have l2 := DpAll.len hys
    have ht' : (decide (ds.length ≤ 1000000) && thins ds) = true := ht
    rw [Bool.and_eq_true] at ht'
    have lb := of_decide_eq_true ht'.1
    refine ⟨_, rfl, _, rfl, ifF rfl ?_⟩
    refine ⟨_, rfl, _, _, _, _, false, rfl, .ty _, tyL hb, kit_ty (by decide +kernel), _, rfl, ifF rfl ?_⟩
    refine ⟨_, rfl, _, _, _, _, false, rfl, .ty _, tyL hb, kit_ty (by decide +kernel), _, rfl, ifF rfl ?_⟩
    refine ⟨_, rfl, _, _, _, _, false, rfl, .ty _, tyL hb, kit_ty (by decide +kernel), _, rfl, ifF rfl ?_⟩
    refine ⟨_, rfl, _, _, _, _, false, rfl, .ty _, tyL hb, kit_ty (by decide +kernel), _, rfl, ifF rfl ?_⟩
    refine ⟨_, rfl, _, _, _, _, true, rfl, .ty _, tyL ha, kit_ty (by decide +kernel), _, rfl, ifF rfl ?_⟩
    refine ⟨_, rfl, a, xs, rfl, .inl ha, _, rfl, b, ys, rfl, .inl hb, rfl, _, rfl, ifF (by rw [l1, l2]; simp) ?_⟩
    refine ⟨_, rfl, b, ys, rfl, .inl hb, _, rfl, by omega, by omega, ?_⟩
    rw [show (((ys.length : Nat) : Int)).toNat = ys.length from rfl]
    refine for_it (walk_range (lo := 0) (n := ys.length)) (fun i σ H' => Same H H' ∧ ∃ v, σ = [some (.ref a), some (.ref b), v]) ⟨Same.refl H, none, rfl⟩ (fun _ _ _ _ _ => trivial) ?_ ?_
    · rintro i z σ H1 H2 hi ⟨s1, v, rfl⟩ ⟨rfl, rfl⟩
      obtain ⟨x1, y1, hx1, hy1, dx, dy⟩ := like_rows hxs hys i (by omega)
      refine ⟨_, rfl, _, rfl, a, xs, _, x1, rfl, rfl, .inl (s1.seq ha), atI_nat0 hx1, ?_⟩
      refine ⟨_, rfl, _, rfl, b, ys, _, y1, rfl, rfl, .inl (s1.seq hb), atI_nat0 hy1, ?_⟩
      have hm : ds[i]'(by omega) ∈ ds := List.getElem_mem _
      have := depthAll_get hm
      refine ⟨_, Dp.keep s1 dx, Dp.keep s1 dy, thins_get ht'.2 _ hm, by simp only [PyData.depth] at hd; omega, fun H3 s3 => ?_⟩
      exact ⟨_, rfl, ifF rfl ⟨s1.trans s3, _, rfl⟩⟩
    · rintro σ H1 ⟨s1, v, rfl⟩
      exact q H1 s1
theorem c_law_like (T : Top w K mg) : ∀ n, Cal P w K mg base CX0 (n + 1) "_law_like" (spLike K n)
  | 0 => cal_never (f_law_like T) (g_law_like T) (ps := ["_law_actual", "_law_due"]) (fun _ _ _ _ _ _ us hl => match us, hl with | [_, _], _ => rfl) fun vs H Q E h => by
      match vs, h with
      | [x, y], h =>
      obtain ⟨d, _, _, _, hd, _⟩ := h
      omega
  | n + 1 => ok_law_like T (c_law_like T n)
end
end RM

set_option Elab.async false
set_option linter.all false
set_option maxRecDepth 100000
set_option maxHeartbeats 4000000
namespace RM
open PySem PySem.Spec PyProof.Rows L2
/-! ### thin, deep -/
theorem thin_int (ns : List Int) : thins (ns.map .int) = true := thins_of fun d hd => by
  obtain ⟨n, _, rfl⟩ := List.mem_map.mp hd
  rfl
theorem dep_int : ∀ ns : List Int, PyData.depthAll (ns.map .int) = 0
  | [] => rfl
  | n :: r => by
    rw [List.map_cons, PyData.depthAll, dep_int r]
    rfl
theorem thin_st {s : List Int} (h : s.length ≤ 1000000) : thin (stD s) = true := by
  show (decide ((s.map PyData.int).length ≤ 1000000) && thins (s.map .int)) = true
  rw [thin_int, List.length_map, decide_eq_true h]
  rfl
theorem dep_st (s : List Int) : (stD s).depth = 1 := by
  show PyData.depthAll (s.map .int) + 1 = 1
  rw [dep_int]
theorem thin_list {α : Type} {f : α → PyData} {l : List α} (hl : l.length ≤ 1000000) (h : ∀ x ∈ l, thin (f x) = true) : thin (.list (l.map f)) = true := by
  show (decide ((l.map f).length ≤ 1000000) && thins (l.map f)) = true
  rw [List.length_map, decide_eq_true hl, thins_of fun d hd => by
    obtain ⟨x, hx, rfl⟩ := List.mem_map.mp hd
    exact h x hx]
  rfl
theorem dep_list {α : Type} {f : α → PyData} {k : Nat} (l : List α) (h : ∀ x ∈ l, (f x).depth ≤ k) : (PyData.list (l.map f)).depth ≤ k + 1 := by
  show PyData.depthAll (l.map f) + 1 ≤ k + 1
  have : ∀ m : List α, (∀ x ∈ m, (f x).depth ≤ k) → PyData.depthAll (m.map f) ≤ k := by
    intro m
    induction m with
    | nil => intro _; exact Nat.zero_le _
    | cons x r ih =>
      intro hm
      rw [List.map_cons, PyData.depthAll]
      have a := hm x List.mem_cons_self
      have b := ih fun y hy => hm y (List.mem_cons_of_mem _ hy)
      omega
  have := this l h
  omega
theorem thin_seen {q : List Int × Str × Int × Int} (h : q.1.length ≤ 1000000) : thin (seenD q) = true := by
  have e : thin (seenD q) = (decide (4 ≤ 1000000) && (thin (pathD q.1) && true)) := rfl
  rw [e, show thin (pathD q.1) = true from thin_st h]
  rfl
theorem dep_seen (q : List Int × Str × Int × Int) : (seenD q).depth ≤ 2 := by
  show max (pathD q.1).depth (max 0 (max 0 (max 0 0))) + 1 ≤ 2
  rw [show (pathD q.1).depth = 1 from dep_st q.1]
  decide
end RM

set_option Elab.async false
set_option linter.all false
set_option maxRecDepth 100000
set_option maxHeartbeats 4000000
/-! some lists are changed, all else is kept -/
namespace RM
open PySem PySem.Spec PyProof.Rows L2
def isL : HO → Bool
  | .lst _ => true
  | _ => false
structure Ls (S : List Addr) (H H' : Hp) : Prop where
  nl : ∀ b u, isL u = false → H b = some u → H' b = some u
  ls : ∀ b xs, b ∉ S → H b = some (.lst xs) → H' b = some (.lst xs)
def dlS (H : Hp) (S : List Addr) : Hp := fun b => if b ∈ S then none else H b
section
variable {K : PySem.W.Frag} {S : List Addr} {H H' H2 : Hp} {d sc : Addr}
theorem Ls.refl : Ls S H H := ⟨fun _ _ _ h => h, fun _ _ _ h => h⟩
theorem Ls.trans (a : Ls S H H') (b : Ls S H' H2) : Ls S H H2 := ⟨fun x u n h => b.nl x u n (a.nl x u n h), fun x xs n h => b.ls x xs n (a.ls x xs n h)⟩
theorem Ls.sm (e : Same H H') : Ls S H H' := ⟨fun x u _ h => e _ _ h, fun x xs _ h => e _ _ h⟩
theorem Ls.but (b : But d H H') (hd : Hd4 H d sc) (hS : d ∈ S) : Ls S H H' := by
  obtain ⟨i, j, k, h, _⟩ := hd
  refine ⟨fun x u n hx => b.get (fun z => ?_) hx, fun x xs n hx => b.get (fun z => n (z ▸ hS)) hx⟩
  rw [z, h] at hx
  injection hx with hx
  rw [← hx] at n
  cases n
theorem Ls.upd {p : Addr} {xs : List V} {o : HO} (hp : H p = some (.lst xs)) (hS : p ∈ S) : Ls S H (L2.upd H p o) := by
  refine ⟨fun x u n hx => ?_, fun x ys n hx => ?_⟩
  · rw [upd_ne fun z => ?_]
    · exact hx
    · rw [z, hp] at hx
      injection hx with hx
      rw [← hx] at n
      cases n
  · rw [upd_ne fun z : x = p => n (by rw [z]; exact hS)]
    exact hx
theorem Ls.map {C : Addr} {f : Str} {a : Addr} {m : WM} (e : Ls S H H') (h : MapAt H C f a m) : MapAt H' C f a m := let ⟨dx, p, h1, h2, h3⟩ := h; ⟨dx, p, e.nl _ _ rfl h1, e.nl _ _ rfl h2, h3⟩
theorem Ls.chg {a : Addr} {m : WM} (e : Ls S H H') (h : ChgAt K H a m) : ChgAt K H' a m := ⟨e.map h.1, h.2⟩
theorem dlS_sm (H : Hp) (S : List Addr) : Same (dlS H S) H := fun b u h => by
  unfold dlS at h
  split at h
  · cases h
  · exact h
/-- the draws, apart from lists that change -/
structure DrawS (K : PySem.W.Frag) (H : Hp) (d sc : Addr) (S : List Addr) : Prop where
  hd : Hd4 H d sc
  sc : Scr K (dlS (del H d) S) sc
  ne : ∀ p ∈ S, p ≠ d
theorem DrawAt.none (h : DrawAt K H d sc) : DrawS K H d sc [] := ⟨h.1, h.2.keep fun b u hb => by unfold dlS; rw [if_neg (by simp)]; exact hb, fun p hp => by simp at hp⟩
theorem DrawS.one (h : DrawS K H d sc S) : DrawAt K H d sc := ⟨h.hd, h.sc.keep (dlS_sm _ _)⟩
theorem DrawS.but (h : DrawS K H d sc S) (b : But d H H') (dr : DrawAt K H' d sc) : DrawS K H' d sc S := ⟨dr.1, h.sc.keep fun c u hc => by
  unfold dlS at hc ⊢
  by_cases z : c ∈ S
  · rw [if_pos z] at hc; cases hc
  · rw [if_neg z] at hc ⊢
    exact b _ _ hc, h.ne⟩
theorem DrawS.keep (h : DrawS K H d sc S) (e : Same H H') : DrawS K H' d sc S := h.but (but_sm e) (h.one.keep e)
theorem DrawS.upd {p : Addr} (h : DrawS K H d sc S) (o : HO) (hp : p ∈ S) : DrawS K (L2.upd H p o) d sc S := by
  obtain ⟨⟨i, j, k, h1, h2⟩, h3, ne⟩ := h
  refine ⟨⟨i, j, k, by rw [upd_ne (Ne.symm (ne p hp))]; exact h1, h2⟩, h3.keep fun c u hc => ?_, ne⟩
  unfold dlS at hc ⊢
  by_cases z : c ∈ S
  · rw [if_pos z] at hc; cases hc
  · rw [if_neg z] at hc ⊢
    by_cases e2 : c = d
    · rw [e2, del_same] at hc; cases hc
    · rw [del_ne e2] at hc ⊢
      rw [upd_ne fun q : c = p => z (by rw [q]; exact hp)]
      exact hc
theorem DrawS.new {p : Addr} (h : DrawS K H d sc S) (hp : H p = none) (o : HO) : DrawS K (L2.upd H p o) d sc (p :: S) := by
  have nd : p ≠ d := fun z => h.hd.ne (by rw [← z]; exact hp)
  refine ⟨h.hd.keep (smNew1 hp _), h.sc.keep fun c u hc => ?_, fun q hq => ?_⟩
  · unfold dlS at hc ⊢
    by_cases z : c ∈ S
    · rw [if_pos z] at hc; cases hc
    · rw [if_neg z] at hc
      by_cases e2 : c = d
      · rw [e2, del_same] at hc; cases hc
      · rw [del_ne e2] at hc
        have cp : c ≠ p := ne_of_none hc hp
        rw [if_neg (by simp [cp, z]), del_ne e2, upd_ne cp]
        exact hc
  · rcases List.mem_cons.mp hq with rfl | hq
    · exact nd
    · exact h.ne q hq
end
end RM

set_option Elab.async false
set_option linter.all false
set_option maxRecDepth 100000
set_option maxHeartbeats 4000000
namespace RM
open PySem PySem.Spec PyProof.Rows L2
section
variable {K : PySem.W.Frag} {S : List Addr} {H H' H2 : Hp} {d sc : Addr}
theorem Ls.sur {a : Addr} {m : WM} (e : Ls S H H') (h : SurAt K H a m) : SurAt K H' a m := ⟨e.map h.1, h.2⟩
theorem Ls.ts (e : Ls S H H') : TS K H H' := fun a xs h => h.imp (Or.imp (e.nl _ _ rfl) fun ⟨q, at_⟩ => ⟨q, e.nl _ _ rfl at_⟩) id
theorem Ls.prg {a : Addr} {l : List Stm} (e : Ls S H H') (h : PrgAt K H a l) : PrgAt K H' a l := let ⟨dx, v, h1, h2⟩ := h; ⟨dx, v, e.nl _ _ rfl h1, dp_ts e.ts h2 (noL_tuple (noL_encB l))⟩
end
end RM

set_option Elab.async false
set_option linter.all false
set_option maxRecDepth 100000
set_option maxHeartbeats 4000000
/-! an own run of a law in the heap -/
namespace RM
open PySem PySem.Spec PyProof.Rows L2
theorem perm_get {a b : WM} (na : (wKeys a).Nodup) (nb : (wKeys b).Nodup) (h : ∀ k, wGet a k = wGet b k) : a.Perm b := by
  have p : (wKeys a).Perm (wKeys b) := (List.perm_ext_iff_of_nodup na nb).mpr fun k => by
    have h1 := wGet_none (m := a) (k := k)
    have h2 := wGet_none (m := b) (k := k)
    rw [h k] at h1
    constructor
    · intro z
      exact Classical.byContradiction fun q => h1.mp (h2.mpr q) z
    · intro z
      exact Classical.byContradiction fun q => h2.mp (h1.mpr q) z
  have e : (fun k : Str => (k, (wGet a k).getD 0)) = fun k => (k, (wGet b k).getD 0) := funext fun k => by rw [h k]
  rw [w_ext na, w_ext nb, e]
  exact p.map _
theorem over_perm {m m' g g' : WM} (nm : (wKeys m').Nodup) (ng : (wKeys g').Nodup) (pm : m.Perm m') (pg : g.Perm g') : (wOver m g).Perm (wOver m' g') := by
  have nm2 : (wKeys m).Nodup := (pm.map _).nodup_iff.mpr nm
  have ng2 : (wKeys g).Nodup := (pg.map _).nodup_iff.mpr ng
  refine perm_get (nodup_over nm2 g) (nodup_over nm g') fun k => ?_
  rw [wGet_over ng2, wGet_over ng, wGet_perm ng pg, wGet_perm nm pm]
abbrev kS' (z : Str) : Key := Sum.inr z
structure OA where
  pA : Addr
  tA : Addr
  nw : Addr
  hd : Addr
  pr : Addr
  se : Addr
  mo : Addr
  ch : Addr
  pn : Addr
structure OW where
  m : WM
  ws : List V
  ls : List V
structure OwnW (K : PySem.W.Frag) (H0 H : Hp) (A : OA) (W : OW) (s : RS) : Prop where
  sm : Same H0 H
  fa : H0 A.pA = none
  ft : H0 A.tA = none
  fn : H0 A.nw = none
  fh : H0 A.hd = none
  fp : H0 A.pr = none
  fs : H0 A.se = none
  fm : H0 A.mo = none
  nd : [A.pA, A.tA, A.nw, A.hd].Nodup
  nl : [A.pr, A.se, A.mo].Nodup
  pl : H A.pA = some (.dK [(kS' "now", .ref A.nw), (kS' "held", .ref A.hd), (kS' "plan", .ref A.pn), (kS' "changes", .ref A.ch)])
  tl : H A.tA = some (.dK [(kS' "printed", .ref A.pr), (kS' "seen", .ref A.se), (kS' "waits", .int (s.waits : Nat)), (kS' "moments", .ref A.mo)])
  now : H A.nw = some (.dK (mK W.m))
  pm : W.m.Perm s.now
  held : H A.hd = some (.dK (mK s.held))
  pr : H A.pr = some (.lst (s.printed.map V.int))
  se : H A.se = some (.lst W.ls)
  dl : DpAll K H W.ls (s.seen.map seenD)
  mo : H A.mo = some (.lst W.ws)
  dw : DpAll K H W.ws (s.went.map stD)
def OwnAt (K : PySem.W.Frag) (H0 H : Hp) (A : OA) (s : RS) : Prop := ∃ W, OwnW K H0 H A W s
structure EnvO (K : PySem.W.Frag) (H0 : Hp) (A : OA) (e : RE) (ks : List Str) : Prop where
  ch : ∃ cas : List Addr, SqL K H0 A.ch (cas.map V.ref) ∧ Paired (fun c g => ∃ g0, H0 c = some (.dK (mK g0)) ∧ List.Perm g0 g) cas e.cs
  pn : ∃ its : List Addr, SqL K H0 A.pn (its.map V.ref) ∧ Paired (fun a ns => SqL K H0 a (ns.map V.int)) its e.plan
  ok : EOk e ks
theorem dk_lst {H : Hp} {a b : Addr} {x : List (Key × V)} {y : List V} {o : HO} (h1 : H b = some (.dK x)) (h2 : H a = some (.lst y)) : L2.upd H a o b = some (.dK x) := upd_tg h1 h2 (by simp [tg])
theorem lst_dk {H : Hp} {a b : Addr} {x : List (Key × V)} {y : List V} {o : HO} (h1 : H b = some (.lst y)) (h2 : H a = some (.dK x)) : L2.upd H a o b = some (.lst y) := upd_tg h1 h2 (by simp [tg])
theorem upd_upd {H : Hp} {a : Addr} {o u : HO} : L2.upd (L2.upd H a o) a u = L2.upd H a u := by
  funext b
  by_cases e : b = a
  · rw [e, upd_same, upd_same]
  · rw [upd_ne e, upd_ne e, upd_ne e]
theorem upd_comm {H : Hp} {a b : Addr} {o u : HO} (n : a ≠ b) : L2.upd (L2.upd H a o) b u = L2.upd (L2.upd H b u) a o := by
  funext c
  by_cases e : c = a
  · rw [e, upd_ne n, upd_same, upd_same]
  · by_cases e2 : c = b
    · rw [e2, upd_same, upd_ne (Ne.symm n), upd_same]
    · rw [upd_ne e2, upd_ne e, upd_ne e, upd_ne e2]
theorem upd_own {H : Hp} {a : Addr} {o : HO} (h : H a = some o) : L2.upd H a o = H := by
  funext b
  by_cases e : b = a
  · rw [e, upd_same, h]
  · rw [upd_ne e]
theorem sqL_any {K : PySem.W.Frag} {H : Hp} {p a : Addr} {m : List (Key × V)} {o : HO} {xs : List V} (hp : H p = some (.dK m)) (h : SqL K H a xs) : SqL K (L2.upd H p o) a xs := by
  rcases h with (h | ⟨q, h⟩) | h
  · exact .inl (.inl (by rw [upd_ne fun z => by rw [z, hp] at h; cases h]; exact h))
  · exact .inl (.inr ⟨q, by rw [upd_ne fun z => by rw [z, hp] at h; cases h]; exact h⟩)
  · exact .inr h
section
variable {K : PySem.W.Frag} {H0 H H' : Hp} {A : OA} {W : OW} {s : RS} {e : RE} {ks : List Str}
theorem OwnW.n (h : OwnW K H0 H A W s) : (A.pA ≠ A.tA ∧ A.pA ≠ A.nw ∧ A.pA ≠ A.hd) ∧ (A.tA ≠ A.nw ∧ A.tA ≠ A.hd) ∧ A.nw ≠ A.hd := by
  have := h.nd
  simp only [List.nodup_cons, List.mem_cons, List.not_mem_nil, or_false, not_or, not_false_eq_true, List.nodup_nil, and_true] at this
  exact this
theorem OwnW.l (h : OwnW K H0 H A W s) : (A.pr ≠ A.se ∧ A.pr ≠ A.mo) ∧ A.se ≠ A.mo := by
  have := h.nl
  simp only [List.nodup_cons, List.mem_cons, List.not_mem_nil, or_false, not_or, not_false_eq_true, List.nodup_nil, and_true] at this
  exact this
theorem OwnW.keep (e : Same H H') (h : OwnW K H0 H A W s) : OwnW K H0 H' A W s :=
  { h with sm := h.sm.trans e, pl := e _ _ h.pl, tl := e _ _ h.tl, now := e _ _ h.now, held := e _ _ h.held, pr := e _ _ h.pr, se := e _ _ h.se, dl := DpAll.keep e h.dl, mo := e _ _ h.mo, dw := DpAll.keep e h.dw }
theorem OwnW.upHeld (h : OwnW K H0 H A W s) (m : WM) : OwnW K H0 (L2.upd H A.hd (.dK (mK m))) A W { s with held := m } := by
  have ts : TS K H (L2.upd H A.hd (.dK (mK m))) := ts_upd _ h.held trivial
  obtain ⟨⟨_, _, n1⟩, ⟨_, n2⟩, n3⟩ := h.n
  exact { h with sm := smOut h.sm h.fh _, pl := by rw [upd_ne n1]; exact h.pl, tl := by rw [upd_ne n2]; exact h.tl, now := by rw [upd_ne n3]; exact h.now, held := upd_same, pr := lst_dk h.pr h.held, se := lst_dk h.se h.held, dl := dps_ts ts h.dl (noLs_seen _), mo := lst_dk h.mo h.held, dw := dps_ts ts h.dw (noLs_sts _) }
theorem OwnW.upNow (h : OwnW K H0 H A W s) (m m' : WM) (p : m.Perm m') : OwnW K H0 (L2.upd H A.nw (.dK (mK m))) A { W with m := m } { s with now := m' } := by
  have ts : TS K H (L2.upd H A.nw (.dK (mK m))) := ts_upd _ h.now trivial
  obtain ⟨⟨_, n1, _⟩, ⟨n2, _⟩, n3⟩ := h.n
  exact { h with sm := smOut h.sm h.fn _, pl := by rw [upd_ne n1]; exact h.pl, tl := by rw [upd_ne n2]; exact h.tl, now := upd_same, pm := p, held := by rw [upd_ne (Ne.symm n3)]; exact h.held, pr := lst_dk h.pr h.now, se := lst_dk h.se h.now, dl := dps_ts ts h.dl (noLs_seen _), mo := lst_dk h.mo h.now, dw := dps_ts ts h.dw (noLs_sts _) }
theorem OwnW.upWaits (h : OwnW K H0 H A W s) (n : Nat) : OwnW K H0 (L2.upd H A.tA (.dK [(kS' "printed", .ref A.pr), (kS' "seen", .ref A.se), (kS' "waits", .int (n : Nat)), (kS' "moments", .ref A.mo)])) A W { s with waits := n } := by
  have ts := ts_upd (K := K) (.dK [(kS' "printed", .ref A.pr), (kS' "seen", .ref A.se), (kS' "waits", .int (n : Nat)), (kS' "moments", .ref A.mo)]) h.tl trivial
  obtain ⟨⟨n1, _, _⟩, ⟨n2, n4⟩, n3⟩ := h.n
  exact { h with sm := smOut h.sm h.ft _, pl := by rw [upd_ne n1]; exact h.pl, tl := upd_same, now := by rw [upd_ne (Ne.symm n2)]; exact h.now, held := by rw [upd_ne (Ne.symm n4)]; exact h.held, pr := lst_dk h.pr h.tl, se := lst_dk h.se h.tl, dl := dps_ts ts h.dl (noLs_seen _), mo := lst_dk h.mo h.tl, dw := dps_ts ts h.dw (noLs_sts _) }
theorem OwnW.upPr (h : OwnW K H0 H A W s) (n : Int) : OwnW K H0 (L2.upd H A.pr (.lst (s.printed.map V.int ++ [.int n]))) A W (tellS s n) := by
  have ts := ts_upd (K := K) (.lst (s.printed.map V.int ++ [.int n])) h.pr trivial
  obtain ⟨⟨n1, n2⟩, n3⟩ := h.l
  exact { h with sm := smOut h.sm h.fp _, pl := dk_lst h.pl h.pr, tl := dk_lst h.tl h.pr, now := dk_lst h.now h.pr, held := dk_lst h.held h.pr, pr := by show L2.upd H A.pr _ A.pr = some (HO.lst ((s.printed ++ [n]).map V.int)); rw [upd_same, List.map_append]; rfl, se := by rw [upd_ne (Ne.symm n1)]; exact h.se, dl := dps_ts ts h.dl (noLs_seen _), mo := by rw [upd_ne (Ne.symm n2)]; exact h.mo, dw := dps_ts ts h.dw (noLs_sts _) }
theorem OwnW.upSe (h : OwnW K H0 H A W s) (v : V) (q : List Int × Str × Int × Int) (hv : Dp K H v (seenD q)) : OwnW K H0 (L2.upd H A.se (.lst (W.ls ++ [v]))) A { W with ls := W.ls ++ [v] } { s with seen := s.seen ++ [q] } := by
  have ts := ts_upd (K := K) (.lst (W.ls ++ [v])) h.se trivial
  have dl' : DpAll K (L2.upd H A.se (.lst (W.ls ++ [v]))) (W.ls ++ [v]) ((s.seen ++ [q]).map seenD) := by
    rw [List.map_append]
    exact DpAll.snoc (dps_ts ts h.dl (noLs_seen _)) (dp_ts ts hv (noL_seenD _))
  obtain ⟨⟨n1, n2⟩, n3⟩ := h.l
  exact { h with sm := smOut h.sm h.fs _, pl := dk_lst h.pl h.se, tl := dk_lst h.tl h.se, now := dk_lst h.now h.se, held := dk_lst h.held h.se, pr := by rw [upd_ne n1]; exact h.pr, se := upd_same, dl := dl', mo := by rw [upd_ne (Ne.symm n3)]; exact h.mo, dw := dps_ts ts h.dw (noLs_sts _) }
theorem OwnW.upMo (h : OwnW K H0 H A W s) (v : V) (st : List Int) (hv : Dp K H v (stD st)) : OwnW K H0 (L2.upd H A.mo (.lst (W.ws ++ [v]))) A { W with ws := W.ws ++ [v] } { s with went := s.went ++ [st] } := by
  have ts := ts_upd (K := K) (.lst (W.ws ++ [v])) h.mo trivial
  have dw' : DpAll K (L2.upd H A.mo (.lst (W.ws ++ [v]))) (W.ws ++ [v]) ((s.went ++ [st]).map stD) := by
    rw [List.map_append]
    exact DpAll.snoc (dps_ts ts h.dw (noLs_sts _)) (dp_ts ts hv (noL_st _))
  obtain ⟨⟨n1, n2⟩, n3⟩ := h.l
  exact { h with sm := smOut h.sm h.fm _, pl := dk_lst h.pl h.mo, tl := dk_lst h.tl h.mo, now := dk_lst h.now h.mo, held := dk_lst h.held h.mo, pr := by rw [upd_ne n2]; exact h.pr, se := by rw [upd_ne n3]; exact h.se, dl := dps_ts ts h.dl (noLs_seen _), mo := upd_same, dw := dw' }
theorem OwnW.gNow (h : OwnW K H0 H A W s) : DGet H A.pA (.str "now") (some (.ref A.nw)) := .inl ⟨_, kS' "now", .of h.pl, rfl, by rfl⟩
theorem OwnW.gHeld (h : OwnW K H0 H A W s) : DGet H A.pA (.str "held") (some (.ref A.hd)) := .inl ⟨_, kS' "held", .of h.pl, rfl, by rfl⟩
theorem OwnW.gPlan (h : OwnW K H0 H A W s) : DGet H A.pA (.str "plan") (some (.ref A.pn)) := .inl ⟨_, kS' "plan", .of h.pl, rfl, by rfl⟩
theorem OwnW.gChanges (h : OwnW K H0 H A W s) : DGet H A.pA (.str "changes") (some (.ref A.ch)) := .inl ⟨_, kS' "changes", .of h.pl, rfl, by rfl⟩
theorem OwnW.gPrinted (h : OwnW K H0 H A W s) : DGet H A.tA (.str "printed") (some (.ref A.pr)) := .inl ⟨_, kS' "printed", .of h.tl, rfl, by rfl⟩
theorem OwnW.gSeen (h : OwnW K H0 H A W s) : DGet H A.tA (.str "seen") (some (.ref A.se)) := .inl ⟨_, kS' "seen", .of h.tl, rfl, by rfl⟩
theorem OwnW.gWaits (h : OwnW K H0 H A W s) : DGet H A.tA (.str "waits") (some (.int (s.waits : Nat))) := .inl ⟨_, kS' "waits", .of h.tl, rfl, by rfl⟩
theorem OwnW.gMoments (h : OwnW K H0 H A W s) : DGet H A.tA (.str "moments") (some (.ref A.mo)) := .inl ⟨_, kS' "moments", .of h.tl, rfl, by rfl⟩
theorem OwnW.get (h : OwnW K H0 H A W s) (k : ROk e ks s) {z : Str} (hz : z ∈ ks) : DGet H A.nw (.str z) (some (.int (nOf s z))) := by
  refine .inl ⟨_, kS' z, .of h.now, rfl, ?_⟩
  have e : wGet W.m z = some (nOf s z) := by
    rw [wGet_perm k.now.2 h.pm]
    unfold nOf
    cases q : wGet s.now z with
    | none => exact absurd (by rw [k.keys]; exact hz) (wGet_none.mp q)
    | some n => rfl
  show _ = valV (mK W.m) (Sum.inr z)
  rw [valV_get, e]
  rfl
end
end RM

set_option Elab.async false
set_option linter.all false
set_option maxRecDepth 100000
set_option maxHeartbeats 4000000
set_option pp.maxSteps 600
set_option pp.deepTerms false
namespace RM
open PySem PySem.Spec PyProof.Rows L2
theorem small6' {n : Nat} (h : n ≤ 6000) : n < sizeLine := by unfold sizeLine; omega
theorem getD_v (s : RS) (v : Str) : ((wGet s.held v).map V.int).getD (.int 0) = .int (vOf s v) := by
  unfold vOf
  cases wGet s.held v <;> rfl
section
variable {P : Program} {w : World} {K : PySem.W.Frag} {mg : Str → Option Value} {base : Heap}
/-- one plain statement of an own run -/
def spDo (K : PySem.W.Frag) : Sp := fun vs H Q _ => match vs with
  | [o, p, x, y] => ∃ H0 A e ks s st pth, x = .ref A.pA ∧ y = .ref A.tA ∧ OwnAt K H0 H A s ∧ EnvO K H0 A e ks ∧ ROk e ks s ∧ Dp K H0 o (encS true st) ∧ Dp K H p (pathD pth) ∧ dS st = 0 ∧ st.word ≠ "stop" ∧ st.word ≠ "if" ∧ st.word ≠ "same" ∧ st.word ≠ "repeat" ∧ kS ks st = true ∧
    sz s + 2 ≤ 5000 ∧ ∀ H', OwnAt K H0 H' A (goS e pth st s) → ROk e ks (goS e pth st s) → TS K H H' → Q .non H'
  | _ => False
theorem sc_law_do : FnScope ["_law_one", "_law_path", "_law_place", "_law_told", "_law_number", "_law_key"] ["_law_one", "_law_path", "_law_place", "_law_told"] (defScope s_law_do) := ⟨rfl, rfl, rfl, by decide +kernel, rfl, by decide +kernel, by decide +kernel⟩
theorem c_law_do (T : Top w K mg) : Cal P w K mg base CX0 2 "_law_do" (spDo K) := by
  refine cal_0 (f_law_do T) (g_law_do T) sc_law_do (fun _ _ _ _ _ _ us hl => match us, hl with | [_, _, _, _], _ => rfl) (fun vs H Q E h => match vs, h with | [_, _, _, _], _ => rfl) (fun cdv A outer s H vs Q E hr h => ?_)
  match vs, h with
  | [o, p, x, y], h =>
  obtain ⟨H0, A, e, ks, s, st, pth, rfl, rfl, ⟨W, R⟩, VE, k, ho, hp, ds, n1, n2, n3, n4, kst, ss, q⟩ := h
  obtain ⟨sa, sxs, rfl, hsa, hsx⟩ := shape_of ho
  refine ⟨_, (pss_cons (ps_if (pt_cmpR op_eq (pe_ix ix_tup (pv 0) pe_int (fun _ _ => rfl)) pe_str (nomark _))
      (pss_cons (ps_dput (hu_of hr) (pe_dget (hu_of hr) (pv 2) pe_str (fun _ _ => rfl)) (pe_ix ix_tup (pv 0) pe_int (fun _ _ => rfl)) (pe_dget (hu_of hr) (pe_dget (hu_of hr) (pv 2) pe_str (fun _ _ => rfl)) (pe_ix ix_tup (pv 0) pe_int (fun _ _ => rfl)) (fun _ _ => rfl)) rfl)
    (pss_one (ps_expr (pe_bm PySem.F.plainAttrs_list PySem.F.slot_list_append PySem.F.type_list_append mt_append (pe_dget (hu_of hr) (pv 3) pe_str (fun _ _ => rfl)) (pa_cons (pe_tup (pa_cons (pv 1) (pa_cons (pe_ix ix_tup (pv 0) pe_int (fun _ _ => rfl)) (pa_cons (pe_dget (hu_of hr) (pe_dget (hu_of hr) (pv 2) pe_str (fun _ _ => rfl)) (pe_ix ix_tup (pv 0) pe_int (fun _ _ => rfl)) (fun _ _ => rfl)) (pa_cons (pe_op op_sub (pcb (z_len T) call_len_seq boot_len (pa_cons (pe_dget (hu_of hr) (pv 3) pe_str (fun _ _ => rfl)) pa_nil)) pe_int) pa_nil))))) pa_nil)))))
      pss_nil)
    (pss_cons (ps_if (pt_cmpR op_eq (pe_ix ix_tup (pv 0) pe_int (fun _ _ => rfl)) pe_str (nomark _))
      (pss_one (ps_dput (hu_of hr) (pe_dget (hu_of hr) (pv 2) pe_str (fun _ _ => rfl)) (pe_ix ix_tup (pv 0) pe_int (fun _ _ => rfl)) (pe_ix ix_tup (pv 0) pe_int (fun _ _ => rfl)) rfl))
      pss_nil)
    (pss_cons (ps_if (pt_cmpR op_eq (pe_ix ix_tup (pv 0) pe_int (fun _ _ => rfl)) pe_str (nomark _))
      (pss_one (ps_dput (hu_of hr) (pe_dget (hu_of hr) (pv 2) pe_str (fun _ _ => rfl)) (pe_ix ix_tup (pv 0) pe_int (fun _ _ => rfl)) (pe_dget2 (hu_of hr) (pe_dget (hu_of hr) (pv 2) pe_str (fun _ _ => rfl)) (pe_ix ix_tup (pv 0) pe_int (fun _ _ => rfl)) pe_int (M2.mk rfl rfl rfl rfl)) rfl))
      pss_nil)
    (pss_cons (ps_if (pt_cmpR op_eq (pe_ix ix_tup (pv 0) pe_int (fun _ _ => rfl)) pe_str (nomark _))
      (pss_one (ps_expr (pe_bm PySem.F.plainAttrs_list PySem.F.slot_list_append PySem.F.type_list_append mt_append (pe_dget (hu_of hr) (pv 3) pe_str (fun _ _ => rfl)) (pa_cons (pe_dget2 (hu_of hr) (pe_dget (hu_of hr) (pv 2) pe_str (fun _ _ => rfl)) (pe_ix ix_tup (pv 0) pe_int (fun _ _ => rfl)) pe_int (M2.mk rfl rfl rfl rfl)) pa_nil))))
      pss_nil)
    (pss_cons (ps_if (pt_cmpR op_eq (pe_ix ix_tup (pv 0) pe_int (fun _ _ => rfl)) pe_str (nomark _))
      (pss_one (ps_expr (pe_bm PySem.F.plainAttrs_list PySem.F.slot_list_append PySem.F.type_list_append mt_append (pe_dget (hu_of hr) (pv 3) pe_str (fun _ _ => rfl)) (pa_cons (pe_ix ix_tup (pv 0) pe_int (fun _ _ => rfl)) pa_nil))))
      pss_nil)
    (pss_one (ps_if (pt_cmpR op_eq (pe_ix ix_tup (pv 0) pe_int (fun _ _ => rfl)) pe_str (nomark _))
      (pss_cons (ps_mid (ps_if (pt_cmpR op_lt (pe_dget (hu_of hr) (pv 3) pe_str (fun _ _ => rfl)) (pcb (z_len T) call_len_seq boot_len (pa_cons (pe_dget (hu_of hr) (pv 2) pe_str (fun _ _ => rfl)) pa_nil)) (nomark _))
      (pss_one (ps_for PassesOwn.never rfl (pi_list (pe_ix ix_list (pe_dget (hu_of hr) (pv 2) pe_str (fun _ _ => rfl)) (pe_dget (hu_of hr) (pv 3) pe_str (fun _ _ => rfl)) (fun _ _ => rfl))) (pg_name (i := 4) sc_law_do.nd rfl (Or.inl rfl))
      (pss_cons (ps_lock (ps_for PassesOwn.never rfl (pi_keys (pe_ix ix_list (pe_dget (hu_of hr) (pv 2) pe_str (fun _ _ => rfl)) (pv 4) (fun _ _ => rfl))) (pg_name (i := 5) sc_law_do.nd rfl (Or.inl rfl))
      (pss_one (ps_dput (hu_of hr) (pe_dget (hu_of hr) (pv 2) pe_str (fun _ _ => rfl)) (pv 5) (pe_dget (hu_of hr) (pe_ix ix_list (pe_dget (hu_of hr) (pv 2) pe_str (fun _ _ => rfl)) (pv 4) (fun _ _ => rfl)) (pv 5) (fun _ _ => rfl)) rfl))))
    (pss_one (ps_expr (pe_bm PySem.F.plainAttrs_list PySem.F.slot_list_append PySem.F.type_list_append mt_append (pe_dget (hu_of hr) (pv 3) pe_str (fun _ _ => rfl)) (pa_cons (pct (z_tuple T) call_tuple_of boot_tuple (pa_cons (pe_lc (own := [("_law_key", 5)]) rfl sc_law_do.nd (pi_list (pcb (z_sorted T) (call_sortedD rfl) boot_sorted (pa_cons (pe_dget (hu_of hr) (pv 2) pe_str (fun _ _ => rfl)) pa_nil))) (blkOk_by (own := [("_law_key", 5)]) (N := ["_law_one", "_law_path", "_law_place", "_law_told", "_law_number", "_law_key"]) (sc := defScope s_law_do) (by decide +kernel)) (fun _ _ _ _ _ => (pg_name (i := 5) sc_law_do.nd rfl (Or.inl rfl) (Or.inr rfl))) (fun _ _ _ _ _ => pts_nil) (fun _ _ _ _ _ => (pe_dget (hu_of hr) (pe_dget (hu_of hr) (pv 2) pe_str (fun _ _ => rfl)) (pv 5) (fun _ _ => rfl)))) pa_nil)) pa_nil)))))))
      pss_nil))
    (pss_one (ps_dput (hu_of hr) (pv 3) pe_str (pe_op op_add (pe_dget (hu_of hr) (pv 3) pe_str (fun _ _ => rfl)) pe_int) rfl)))
      pss_nil))))))), ?_⟩
  cases st with
  | ite v n a b => exact absurd rfl n2
  | same v u a b => exact absurd rfl n3
  | rep n a => exact absurd rfl n4
  | stop => exact absurd rfl n1
  | read v kk =>
    obtain ⟨x0, r0, rfl, d0, hsx⟩ := DpAll.cons_inv hsx
    obtain ⟨x1, r1, rfl, d1, hsx⟩ := DpAll.cons_inv hsx
    obtain rfl := DpAll.nil_inv hsx
    obtain rfl := Dp.str_inv d0
    obtain rfl := Dp.str_inv d1
    refine ⟨_, rfl, sa, _, _, _, rfl, rfl, smT R.sm hsa, at0, rfl, _, rfl, ifT (decide_eq_true rfl) ?_⟩
    have hk : kk ∈ ks := of_decide_eq_true kst
    have sz1 : s.held.length ≤ 5000 ∧ s.seen.length ≤ 5000 := by unfold sz at ss; omega
    refine ⟨_, rfl, A.pA, _, rfl, R.gNow, _, rfl, sa, _, _, _, rfl, rfl, smT R.sm hsa, at2, A.nw, _, rfl, R.get k hk, _, rfl, A.pA, _, rfl, R.gHeld, _, rfl, sa, _, _, _, rfl, rfl, smT R.sm hsa, at1, A.hd, _, rfl, .inl ⟨mK s.held, .inr v, R.held, rfl, small6' (by show (s.held.map _).length ≤ 6000; rw [List.length_map]; omega), rfl⟩, ?_⟩
    rw [putK_w]
    have R1 := R.upHeld (wPut s.held v (nOf s kk))
    have ts1 : TS K H (upd H A.hd (.dK (mK (wPut s.held v (nOf s kk))))) := ts_upd _ R.held trivial
    have hp1 := dp_ts ts1 hp (noL_path _)
    obtain ⟨H1, eH1⟩ : ∃ H1, H1 = upd H A.hd (.dK (mK (wPut s.held v (nOf s kk)))) := ⟨_, rfl⟩
    rw [← eH1] at R1 ts1 hp1 ⊢
    refine ⟨_, rfl, A.tA, _, rfl, R1.gSeen, .inl ⟨rfl, _, SqL.of R1.se⟩, ?_⟩
    refine ⟨_, rfl, _, rfl, sa, _, _, _, rfl, rfl, smT R1.sm hsa, at2, _, rfl, A.pA, _, rfl, R1.gNow, _, rfl, sa, _, _, _, rfl, rfl, smT R1.sm hsa, at2, A.nw, _, rfl, R1.get k.of hk, _, rfl, A.tA, _, rfl, R1.gMoments, ?_⟩
    have lws : W.ws.length = s.went.length := by have := DpAll.len R.dw; rw [List.length_map] at this; exact this
    have lls : W.ls.length = s.seen.length := by have := DpAll.len R.dl; rw [List.length_map] at this; exact this
    refine ⟨A.mo, W.ws, rfl, .inl (SqL.of R1.mo), _, _, rfl, rfl, (by show 4 ≤ sizeLine; decide), fun pt hpt => ?_⟩
    have eT := smNew1 hpt (.tup [p, .str kk, .int (nOf s kk), .int ((W.ws.length : Nat) - 1)])
    have R2 := R1.keep eT
    refine ⟨A.se, W.ls, .ref pt, rfl, rfl, R2.se, small6' (by omega), ?_⟩
    have hq : Dp K (upd H1 pt (.tup [p, .str kk, .int (nOf s kk), .int ((W.ws.length : Nat) - 1)])) (.ref pt) (seenD (pth, kk, nOf s kk, ((s.went.length : Nat) : Int) - 1)) := by
      refine .tup (SqT.of upd_same) (.cons (Dp.keep eT hp1) (.cons (.str _) (.cons (.int _) (.cons ?_ .nil))))
      rw [lws]
      exact .int _
    have R3 := R2.upSe (.ref pt) _ hq
    have ts3 : TS K H (upd (upd H1 pt (.tup [p, .str kk, .int (nOf s kk), .int ((W.ws.length : Nat) - 1)])) A.se (.lst (W.ls ++ [.ref pt]))) := fun a xs h => ts_upd (K := K) _ R2.se trivial a xs (smT eT (ts1 a xs h))
    refine ⟨_, rfl, sa, _, _, _, rfl, rfl, smT R3.sm hsa, at0, rfl, _, rfl, ifF (decide_eq_false fun z => absurd (V.str.inj z) (by show ("read" : Str) ≠ "set"; decide)) ?_⟩
    refine ⟨_, rfl, sa, _, _, _, rfl, rfl, smT R3.sm hsa, at0, rfl, _, rfl, ifF (decide_eq_false fun z => absurd (V.str.inj z) (by show ("read" : Str) ≠ "copy"; decide)) ?_⟩
    refine ⟨_, rfl, sa, _, _, _, rfl, rfl, smT R3.sm hsa, at0, rfl, _, rfl, ifF (decide_eq_false fun z => absurd (V.str.inj z) (by show ("read" : Str) ≠ "print"; decide)) ?_⟩
    refine ⟨_, rfl, sa, _, _, _, rfl, rfl, smT R3.sm hsa, at0, rfl, _, rfl, ifF (decide_eq_false fun z => absurd (V.str.inj z) (by show ("read" : Str) ≠ "say"; decide)) ?_⟩
    refine ⟨_, rfl, sa, _, _, _, rfl, rfl, smT R3.sm hsa, at0, rfl, _, rfl, ifF (decide_eq_false fun z => absurd (V.str.inj z) (by show ("read" : Str) ≠ "wait"; decide)) ?_⟩
    refine q _ ?_ ?_ ts3
    · exact ⟨_, R3⟩
    · exact k.of
  | set v n =>
    obtain ⟨x0, r0, rfl, d0, hsx⟩ := DpAll.cons_inv hsx
    obtain ⟨x1, r1, rfl, d1, hsx⟩ := DpAll.cons_inv hsx
    obtain rfl := DpAll.nil_inv hsx
    obtain rfl := Dp.str_inv d0
    obtain rfl := Dp.int_inv d1
    refine ⟨_, rfl, sa, _, _, _, rfl, rfl, smT R.sm hsa, at0, rfl, _, rfl, ifF (decide_eq_false fun z => absurd (V.str.inj z) (by show ("set" : Str) ≠ "read"; decide)) ?_⟩
    refine ⟨_, rfl, sa, _, _, _, rfl, rfl, smT R.sm hsa, at0, rfl, _, rfl, ifT (decide_eq_true rfl) ?_⟩
    have sz1 : s.held.length ≤ 5000 := by unfold sz at ss; omega
    refine ⟨_, rfl, sa, _, _, _, rfl, rfl, smT R.sm hsa, at2, _, rfl, A.pA, _, rfl, R.gHeld, _, rfl, sa, _, _, _, rfl, rfl, smT R.sm hsa, at1, A.hd, _, rfl, .inl ⟨mK s.held, .inr v, R.held, rfl, small6' (by show (s.held.map _).length ≤ 6000; rw [List.length_map]; omega), rfl⟩, ?_⟩
    rw [putK_w]
    have R3 := R.upHeld (wPut s.held v n)
    refine ⟨_, rfl, sa, _, _, _, rfl, rfl, smT R3.sm hsa, at0, rfl, _, rfl, ifF (decide_eq_false fun z => absurd (V.str.inj z) (by show ("set" : Str) ≠ "copy"; decide)) ?_⟩
    refine ⟨_, rfl, sa, _, _, _, rfl, rfl, smT R3.sm hsa, at0, rfl, _, rfl, ifF (decide_eq_false fun z => absurd (V.str.inj z) (by show ("set" : Str) ≠ "print"; decide)) ?_⟩
    refine ⟨_, rfl, sa, _, _, _, rfl, rfl, smT R3.sm hsa, at0, rfl, _, rfl, ifF (decide_eq_false fun z => absurd (V.str.inj z) (by show ("set" : Str) ≠ "say"; decide)) ?_⟩
    refine ⟨_, rfl, sa, _, _, _, rfl, rfl, smT R3.sm hsa, at0, rfl, _, rfl, ifF (decide_eq_false fun z => absurd (V.str.inj z) (by show ("set" : Str) ≠ "wait"; decide)) ?_⟩
    exact q _ ⟨_, R3⟩ k.of (ts_upd _ R.held trivial)
  | copy v u =>
    obtain ⟨x0, r0, rfl, d0, hsx⟩ := DpAll.cons_inv hsx
    obtain ⟨x1, r1, rfl, d1, hsx⟩ := DpAll.cons_inv hsx
    obtain rfl := DpAll.nil_inv hsx
    obtain rfl := Dp.str_inv d0
    obtain rfl := Dp.str_inv d1
    refine ⟨_, rfl, sa, _, _, _, rfl, rfl, smT R.sm hsa, at0, rfl, _, rfl, ifF (decide_eq_false fun z => absurd (V.str.inj z) (by show ("copy" : Str) ≠ "read"; decide)) ?_⟩
    refine ⟨_, rfl, sa, _, _, _, rfl, rfl, smT R.sm hsa, at0, rfl, _, rfl, ifF (decide_eq_false fun z => absurd (V.str.inj z) (by show ("copy" : Str) ≠ "set"; decide)) ?_⟩
    refine ⟨_, rfl, sa, _, _, _, rfl, rfl, smT R.sm hsa, at0, rfl, _, rfl, ifT (decide_eq_true rfl) ?_⟩
    have sz1 : s.held.length ≤ 5000 := by unfold sz at ss; omega
    refine ⟨_, rfl, A.pA, _, rfl, R.gHeld, A.hd, rfl, .inl ⟨_, .of R.held⟩, _, rfl, sa, _, _, _, rfl, rfl, smT R.sm hsa, at2, (wGet s.held u).map V.int, .inl ⟨mK s.held, .inr u, .of R.held, rfl, (valV_get _ _).symm⟩, ?_⟩
    rw [getD_v]
    refine ⟨_, rfl, A.pA, _, rfl, R.gHeld, _, rfl, sa, _, _, _, rfl, rfl, smT R.sm hsa, at1, A.hd, _, rfl, .inl ⟨mK s.held, .inr v, R.held, rfl, small6' (by show (s.held.map _).length ≤ 6000; rw [List.length_map]; omega), rfl⟩, ?_⟩
    rw [putK_w]
    have R3 := R.upHeld (wPut s.held v (vOf s u))
    refine ⟨_, rfl, sa, _, _, _, rfl, rfl, smT R3.sm hsa, at0, rfl, _, rfl, ifF (decide_eq_false fun z => absurd (V.str.inj z) (by show ("copy" : Str) ≠ "print"; decide)) ?_⟩
    refine ⟨_, rfl, sa, _, _, _, rfl, rfl, smT R3.sm hsa, at0, rfl, _, rfl, ifF (decide_eq_false fun z => absurd (V.str.inj z) (by show ("copy" : Str) ≠ "say"; decide)) ?_⟩
    refine ⟨_, rfl, sa, _, _, _, rfl, rfl, smT R3.sm hsa, at0, rfl, _, rfl, ifF (decide_eq_false fun z => absurd (V.str.inj z) (by show ("copy" : Str) ≠ "wait"; decide)) ?_⟩
    exact q _ ⟨_, R3⟩ k.of (ts_upd _ R.held trivial)
  | print v =>
    obtain ⟨x0, r0, rfl, d0, hsx⟩ := DpAll.cons_inv hsx
    obtain rfl := DpAll.nil_inv hsx
    obtain rfl := Dp.str_inv d0
    refine ⟨_, rfl, sa, _, _, _, rfl, rfl, smT R.sm hsa, at0, rfl, _, rfl, ifF (decide_eq_false fun z => absurd (V.str.inj z) (by show ("print" : Str) ≠ "read"; decide)) ?_⟩
    refine ⟨_, rfl, sa, _, _, _, rfl, rfl, smT R.sm hsa, at0, rfl, _, rfl, ifF (decide_eq_false fun z => absurd (V.str.inj z) (by show ("print" : Str) ≠ "set"; decide)) ?_⟩
    refine ⟨_, rfl, sa, _, _, _, rfl, rfl, smT R.sm hsa, at0, rfl, _, rfl, ifF (decide_eq_false fun z => absurd (V.str.inj z) (by show ("print" : Str) ≠ "copy"; decide)) ?_⟩
    refine ⟨_, rfl, sa, _, _, _, rfl, rfl, smT R.sm hsa, at0, rfl, _, rfl, ifT (decide_eq_true rfl) ?_⟩
    have sz1 : s.printed.length ≤ 5000 := by unfold sz at ss; omega
    refine ⟨_, rfl, A.tA, _, rfl, R.gPrinted, .inl ⟨rfl, _, SqL.of R.pr⟩, _, rfl, A.pA, _, rfl, R.gHeld, A.hd, rfl, .inl ⟨_, .of R.held⟩, _, rfl, sa, _, _, _, rfl, rfl, smT R.sm hsa, at1, (wGet s.held v).map V.int, .inl ⟨mK s.held, .inr v, .of R.held, rfl, (valV_get _ _).symm⟩, ?_⟩
    rw [getD_v]
    refine ⟨A.pr, _, .int (vOf s v), rfl, rfl, R.pr, small6' (by rw [List.length_map]; omega), ?_⟩
    have R3 := R.upPr (vOf s v)
    refine ⟨_, rfl, sa, _, _, _, rfl, rfl, smT R3.sm hsa, at0, rfl, _, rfl, ifF (decide_eq_false fun z => absurd (V.str.inj z) (by show ("print" : Str) ≠ "say"; decide)) ?_⟩
    refine ⟨_, rfl, sa, _, _, _, rfl, rfl, smT R3.sm hsa, at0, rfl, _, rfl, ifF (decide_eq_false fun z => absurd (V.str.inj z) (by show ("print" : Str) ≠ "wait"; decide)) ?_⟩
    exact q _ ⟨_, R3⟩ k.of (ts_upd _ R.pr trivial)
  | say n =>
    obtain ⟨x0, r0, rfl, d0, hsx⟩ := DpAll.cons_inv hsx
    obtain rfl := DpAll.nil_inv hsx
    obtain rfl := Dp.int_inv d0
    refine ⟨_, rfl, sa, _, _, _, rfl, rfl, smT R.sm hsa, at0, rfl, _, rfl, ifF (decide_eq_false fun z => absurd (V.str.inj z) (by show ("say" : Str) ≠ "read"; decide)) ?_⟩
    refine ⟨_, rfl, sa, _, _, _, rfl, rfl, smT R.sm hsa, at0, rfl, _, rfl, ifF (decide_eq_false fun z => absurd (V.str.inj z) (by show ("say" : Str) ≠ "set"; decide)) ?_⟩
    refine ⟨_, rfl, sa, _, _, _, rfl, rfl, smT R.sm hsa, at0, rfl, _, rfl, ifF (decide_eq_false fun z => absurd (V.str.inj z) (by show ("say" : Str) ≠ "copy"; decide)) ?_⟩
    refine ⟨_, rfl, sa, _, _, _, rfl, rfl, smT R.sm hsa, at0, rfl, _, rfl, ifF (decide_eq_false fun z => absurd (V.str.inj z) (by show ("say" : Str) ≠ "print"; decide)) ?_⟩
    refine ⟨_, rfl, sa, _, _, _, rfl, rfl, smT R.sm hsa, at0, rfl, _, rfl, ifT (decide_eq_true rfl) ?_⟩
    have sz1 : s.printed.length ≤ 5000 := by unfold sz at ss; omega
    refine ⟨_, rfl, A.tA, _, rfl, R.gPrinted, .inl ⟨rfl, _, SqL.of R.pr⟩, _, rfl, sa, _, _, _, rfl, rfl, smT R.sm hsa, at1, A.pr, _, .int n, rfl, rfl, R.pr, small6' (by rw [List.length_map]; omega), ?_⟩
    have R3 := R.upPr n
    refine ⟨_, rfl, sa, _, _, _, rfl, rfl, smT R3.sm hsa, at0, rfl, _, rfl, ifF (decide_eq_false fun z => absurd (V.str.inj z) (by show ("say" : Str) ≠ "wait"; decide)) ?_⟩
    exact q _ ⟨_, R3⟩ k.of (ts_upd _ R.pr trivial)
  | wait =>
    refine ⟨_, rfl, sa, _, _, _, rfl, rfl, smT R.sm hsa, at0, rfl, _, rfl, ifF (decide_eq_false fun z => absurd (V.str.inj z) (by show ("wait" : Str) ≠ "read"; decide)) ?_⟩
    refine ⟨_, rfl, sa, _, _, _, rfl, rfl, smT R.sm hsa, at0, rfl, _, rfl, ifF (decide_eq_false fun z => absurd (V.str.inj z) (by show ("wait" : Str) ≠ "set"; decide)) ?_⟩
    refine ⟨_, rfl, sa, _, _, _, rfl, rfl, smT R.sm hsa, at0, rfl, _, rfl, ifF (decide_eq_false fun z => absurd (V.str.inj z) (by show ("wait" : Str) ≠ "copy"; decide)) ?_⟩
    refine ⟨_, rfl, sa, _, _, _, rfl, rfl, smT R.sm hsa, at0, rfl, _, rfl, ifF (decide_eq_false fun z => absurd (V.str.inj z) (by show ("wait" : Str) ≠ "print"; decide)) ?_⟩
    refine ⟨_, rfl, sa, _, _, _, rfl, rfl, smT R.sm hsa, at0, rfl, _, rfl, ifF (decide_eq_false fun z => absurd (V.str.inj z) (by show ("wait" : Str) ≠ "say"; decide)) ?_⟩
    refine ⟨_, rfl, sa, _, _, _, rfl, rfl, smT R.sm hsa, at0, rfl, _, rfl, ifT (decide_eq_true rfl) ?_⟩
    obtain ⟨t, et⟩ : ∃ t, t = (itemAt e s).foldl (stepW e.cs) s := ⟨_, rfl⟩
    obtain ⟨its, hpn, pp⟩ := VE.pn
    have lits : its.length = e.plan.length := pp.length
    refine ⟨fun σ' H' => (∃ v4 v5, σ' = [some (.ref sa), some p, some (.ref A.pA), some (.ref A.tA), v4, v5]) ∧ OwnAt K H0 H' A t ∧ TS K H H', ?_, ?_⟩
    · refine ⟨_, rfl, A.tA, _, rfl, R.gWaits, _, rfl, A.pA, _, rfl, R.gPlan, A.pn, _, rfl, .inl (R.sm.seq hpn), _, _, rfl, rfl, _, rfl, ?_⟩
      rw [List.length_map]
      refine ifB (fun hc => ?_) (fun hc => ?_)
      · have hlt : s.waits < its.length := by have := of_decide_eq_true hc; omega
        obtain ⟨ia, hia⟩ : ∃ ia, its[s.waits]? = some ia := ⟨_, List.getElem?_eq_getElem hlt⟩
        obtain ⟨it, hit, sit⟩ := paired_at pp hia
        have eit : itemAt e s = it := by unfold itemAt; rw [hit]; rfl
        rw [eit] at et
        have hi := List.mem_of_getElem? hit
        refine ⟨_, rfl, A.pA, _, rfl, R.gPlan, _, rfl, A.tA, _, rfl, R.gWaits, A.pn, _, _, .ref ia, rfl, rfl, R.sm.seq hpn, atI_nat (by rw [List.getElem?_map, hia]; rfl), ?_⟩
        refine ⟨ia, rfl, ⟨_, R.sm.seq sit⟩, for_it (walk_list (xs := it.map V.int)) (fun i σ' H' => (∃ v4 v5, σ' = [some (.ref sa), some p, some (.ref A.pA), some (.ref A.tA), v4, v5]) ∧ OwnAt K H0 H' A ((it.take i).foldl (stepW e.cs) s) ∧ TS K H H') ⟨⟨_, _, rfl⟩, ⟨W, R⟩, fun _ _ h => h⟩ (fun _ _ _ _ h => let ⟨_, ⟨_, R⟩, _⟩ := h; R.sm.seq sit) ?_ ?_⟩
        · rintro i x σ H1 H2 hi2 ⟨⟨v4, v5, rfl⟩, ⟨W1, R1⟩, ts⟩ ⟨rfl, hx⟩
          rw [List.getElem?_map] at hx
          obtain ⟨n, hn, rfl⟩ := Option.map_eq_some_iff.mp hx
          obtain ⟨g, hg, eg, og, sub⟩ := chg_at VE.ok hi (List.mem_of_getElem? hn)
          obtain ⟨o1, o2⟩ := fold_ok VE.ok hi k.now k.keys (jt := it.take i) fun _ h => List.mem_of_mem_take h
          have lw : ((it.take i).foldl (stepW e.cs) s).went.length < 1000 := by
            rw [fold_went]
            have := k.room
            rw [drop_item hit, List.length_append] at this
            have il := (List.getElem?_eq_some_iff.mp hn).1
            rw [List.length_take]
            omega
          have ft := fold_take (cs := e.cs) hn s
          obtain ⟨u, eu⟩ : ∃ u, u = (it.take i).foldl (stepW e.cs) s := ⟨_, rfl⟩
          rw [← eu] at R1 lw ft o1 o2
          rw [ft]
          obtain ⟨cas, hcs, pcs⟩ := VE.ch
          have nr := VE.ok.plan it hi n (List.mem_of_getElem? hn)
          have lcs : cas.length = e.cs.length := pcs.length
          obtain ⟨nn, rfl⟩ : ∃ nn : Nat, n = nn := ⟨n.toNat, by omega⟩
          obtain ⟨ca, hca⟩ : ∃ ca, cas[nn]? = some ca := ⟨_, List.getElem?_eq_getElem (by omega)⟩
          obtain ⟨g', hg', g0, hg0, pg0⟩ := paired_at pcs hca
          have : g' = g := by
            rw [Int.toNat_natCast, hg'] at hg
            exact Option.some.inj hg
          subst this
          have ng0 : (wKeys g0).Nodup := (pg0.map _).nodup_iff.mpr og.2
          have hcH := R1.sm _ _ hg0
          have cnw : ca ≠ A.nw := ne_of_none hg0 R1.fn
          have cpA : ca ≠ A.pA := ne_of_none hg0 R1.fa
          obtain ⟨⟨_, pnw, _⟩, _⟩ := R1.n
          have lm4 : (wKeys u.now).length ≤ 4 := by rw [o2]; exact VE.ok.l4
          have sub0 : ∀ z ∈ wKeys g0, z ∈ wKeys W1.m := fun z hz => (R1.pm.map (·.1)).mem_iff.mpr (by show z ∈ wKeys u.now; rw [o2]; exact sub z ((pg0.map (·.1)).mem_iff.mp hz))
          have kover : ∀ j, wKeys (wOver W1.m (g0.take j)) = wKeys W1.m := fun j => wKeys_over fun z hz => sub0 z (by
            unfold wKeys at hz ⊢
            rw [List.map_take] at hz
            exact List.mem_of_mem_take hz)
          have lW : (wKeys W1.m).length ≤ 4 := by
            have := (R1.pm.map (·.1)).length_eq
            have e2 : (wKeys W1.m).length = (wKeys u.now).length := this
            omega
          have hch1 : SqL K H2 A.ch (cas.map V.ref) := R1.sm.seq hcs
          -- the keys of a change
          refine ⟨ca, .dK (mK g0), hcH, trivial, fun od => ?_⟩
          have cell : ∀ j, (upd (upd H2 A.nw (.dK (mK (wOver W1.m (g0.take j))))) ca (.frz od (.dK (mK g0)))) A.pA = some (.dK [(kS' "now", .ref A.nw), (kS' "held", .ref A.hd), (kS' "plan", .ref A.pn), (kS' "changes", .ref A.ch)]) := fun j => by
            rw [upd_ne (Ne.symm cpA), upd_ne pnw]
            exact R1.pl
          have chL : ∀ j, SqL K (upd (upd H2 A.nw (.dK (mK (wOver W1.m (g0.take j))))) ca (.frz od (.dK (mK g0)))) A.ch (cas.map V.ref) := fun j => sqL_any (m := mK g0) (by rw [upd_ne cnw]; exact hcH) (sqL_any R1.now hch1)
          have st0 : upd H2 ca (.frz od (.dK (mK g0))) = upd (upd H2 A.nw (.dK (mK (wOver W1.m (g0.take 0))))) ca (.frz od (.dK (mK g0))) := by
            rw [List.take_zero]
            show _ = upd (upd H2 A.nw (.dK (mK W1.m))) ca _
            rw [upd_own R1.now]
          rw [st0]
          refine ⟨_, rfl, A.pA, _, rfl, .inl ⟨_, kS' "changes", .of (cell 0), rfl, rfl⟩, _, rfl, A.ch, _, _, .ref ca, rfl, rfl, chL 0, atI_nat (by rw [List.getElem?_map, hca]; rfl), ca, od, rfl, .inl ⟨mK g0, upd_same, for_it walk_keys (fun j σ H' => H' = upd (upd H2 A.nw (.dK (mK (wOver W1.m (g0.take j))))) ca (.frz od (.dK (mK g0))) ∧ ∃ v5, σ = [some (.ref sa), some p, some (.ref A.pA), some (.ref A.tA), some (.int (nn : Nat)), v5])
            ⟨rfl, _, rfl⟩ (fun j σ H' _ h => by rw [h.1]; exact upd_same) ?_ ?_⟩⟩
          · rintro j x σ H3 H4 hj ⟨rfl, v5, rfl⟩ ⟨rfl, kz, v2, hkv, rfl⟩
            obtain ⟨z, hz, rfl, rfl⟩ := mK_get hkv
            have hm := List.mem_of_getElem? hz
            refine ⟨_, rfl, A.pA, _, rfl, .inl ⟨_, kS' "changes", .of (cell j), rfl, rfl⟩, _, rfl, A.ch, _, _, .ref ca, rfl, rfl, chL j, atI_nat (by rw [List.getElem?_map, hca]; rfl), _, rfl, ca, .int z.2, rfl, .inl ⟨mK g0, .inr z.1, .inr ⟨od, upd_same⟩, rfl, (valV_mK ng0 z hm).symm⟩, ?_⟩
            refine ⟨_, rfl, A.pA, _, rfl, .inl ⟨_, kS' "now", .of (cell j), rfl, rfl⟩, _, rfl, A.nw, _, rfl, .inl ⟨mK (wOver W1.m (g0.take j)), .inr z.1, by rw [upd_ne (Ne.symm cnw)]; exact upd_same, rfl, small1000 ?_, rfl⟩, ?_⟩
            · have := kover j
              have l2 : (wOver W1.m (g0.take j)).length = (wKeys W1.m).length := by rw [← this]; exact (List.length_map ..).symm
              show ((wOver W1.m (g0.take j)).map _).length ≤ 1000
              rw [List.length_map]
              omega
            · rw [putK_w]
              refine ⟨?_, _, rfl⟩
              have e1 : wPut (wOver W1.m (g0.take j)) z.1 z.2 = wOver W1.m (g0.take (j + 1)) := by
                rw [take_more hz]
                unfold wOver
                rw [List.foldl_append]
                rfl
              rw [e1, upd_comm (Ne.symm cnw).symm, upd_upd]
          rintro σ H3 ⟨rfl, v5, rfl⟩
          have lg0 : (mK g0).length = g0.length := List.length_map ..
          rw [lg0, List.take_length]
          refine ⟨upd_same, ?_⟩
          rw [upd_back (by rw [upd_ne cnw]; exact hcH)]
          have nu := o1.2
          have pm2 : (wOver W1.m g0).Perm (wOver u.now g') := over_perm nu og.2 R1.pm pg0
          have R2 := R1.upNow (wOver W1.m g0) (wOver u.now g') pm2
          have ts2 : TS K H2 (upd H2 A.nw (.dK (mK (wOver W1.m g0)))) := ts_upd _ R1.now trivial
          obtain ⟨H5, e5⟩ : ∃ H5, H5 = upd H2 A.nw (.dK (mK (wOver W1.m g0))) := ⟨_, rfl⟩
          rw [← e5] at R2 ts2 ⊢
          clear e5
          have o3 : okM (wOver u.now g') := okM_over o1 og.1
          have k3 : wKeys (wOver u.now g') = ks := by rw [wKeys_over (by rw [o2]; exact sub), o2]
          have lk : (wKeys (wOver W1.m g0)).length = ks.length := by have h9 := (pm2.map (·.1)).length_eq; rw [← k3]; exact h9
          have l4 := VE.ok.l4
          -- the moment
          refine ⟨_, rfl, A.tA, _, rfl, R2.gMoments, .inl ⟨rfl, _, SqL.of R2.mo⟩, _, rfl, A.pA, _, rfl, R2.gNow, A.nw, _, wKeys (wOver W1.m g0), rfl, .of R2.now, by unfold mK wKeys; rw [List.map_map, List.map_map]; rfl, by omega, fun ys nm hperm hsort hnm => ?_⟩
          have eys : ys = wKeys (wOver u.now g') := by
            have pys : ys.Perm (wKeys (wOver u.now g')) := hperm.trans (pm2.map _)
            refine pw_one (sorted_pw hsort) (sorted_pw (by rw [k3]; exact VE.ok.srt)) (pys.nodup_iff.mpr o3.2) o3.2 fun z => pys.mem_iff
          subst eys
          have e6 := smNew1 hnm (.lst ((wKeys (wOver u.now g')).map V.str))
          refine ⟨nm, rfl, ⟨_, SqL.of upd_same⟩, fun D nD => ?_⟩
          refine lc_opt (walk_list (xs := (wKeys (wOver u.now g')).map V.str)) (fun (n : Int) y _ => y = .int n) (fun j => (wVals (wOver u.now g'))[j]?) nD (small1000 (by rw [List.length_map, k3]; omega)) (fun H' e => SqL.of (e _ _ upd_same)) (fun _ _ _ _ h _ => h) (fun _ _ _ _ _ h _ => h) ?_ ?_
          · rintro j x HA HB N hj eA ⟨rfl, hx⟩ hk _
            rw [List.getElem?_map] at hx
            obtain ⟨z, hz, rfl⟩ := Option.map_eq_some_iff.mp hx
            unfold wKeys at hz
            rw [List.getElem?_map] at hz
            obtain ⟨qz, hqz, rfl⟩ := Option.map_eq_some_iff.mp hz
            have RA := R2.keep (e6.trans eA)
            refine ⟨rfl, yesI ?_⟩
            refine ⟨_, rfl, A.pA, _, rfl, RA.gNow, _, rfl, A.nw, .int qz.2, rfl, .inl ⟨_, .inr qz.1, .of RA.now, rfl, ?_⟩, ?_⟩
            · show _ = valV (mK (wOver W1.m g0)) _
              rw [valV_get, wGet_perm o3.2 pm2, wGet_mem o3.2 (List.mem_of_getElem? hqz)]
              rfl
            · exact hk _ _ qz.2 (by show ((wOver u.now g').map (·.2))[j]? = _; rw [List.getElem?_map, hqz]; rfl) (Same.refl _) rfl
          intro HA yv eA hD hp'
          have lv : ((wKeys (wOver u.now g')).map V.str).length = (wVals (wOver u.now g')).length := by unfold wKeys wVals; rw [List.length_map, List.length_map, List.length_map]
          rw [lv, some_range] at hp'
          have hyv : yv = (wVals (wOver u.now g')).map V.int := paired_eq hp'
          refine ⟨D, yv, rfl, .inl ⟨SqL.of hD, fun tp htp => ?_⟩⟩
          have e7 := smNew (e6.trans eA) htp (.tup yv)
          have R7 := R2.keep e7
          have lws : W1.ws.length = u.went.length := by have := DpAll.len R1.dw; rw [List.length_map] at this; exact this
          refine ⟨A.mo, _, .ref tp, rfl, rfl, R7.mo, small1000 (by show W1.ws.length ≤ 1000; omega), ⟨_, _, rfl⟩, ?_, ?_⟩
          · have hst : Dp K (upd HA tp (.tup yv)) (.ref tp) (stD (wVals (wOver u.now g'))) := st_dp (SqT.of (by rw [upd_same, hyv]))
            have R8 := R7.upMo (.ref tp) _ hst
            have es : stepW e.cs u nn = { u with now := wOver u.now g', went := u.went ++ [wVals (wOver u.now g')] } := by
              unfold stepW
              rw [eg]
            rw [es]
            exact ⟨_, R8⟩
          · exact fun a xs h => ts_upd (K := K) _ R7.mo trivial a xs (smT e7 (ts2 a xs (ts a xs h)))
        · rintro σ H1 ⟨⟨v4, v5, rfl⟩, R1, ts⟩
          rw [List.length_map, List.take_length, ← et] at R1
          exact ⟨⟨_, _, rfl⟩, R1, ts⟩
      · have hge : e.plan.length ≤ s.waits := by have := of_decide_eq_false hc; omega
        have eit : itemAt e s = [] := by unfold itemAt; rw [List.getElem?_eq_none hge]; rfl
        rw [eit] at et
        rw [et]
        exact ⟨⟨_, _, rfl⟩, ⟨W, R⟩, fun _ _ h => h⟩
    · rintro σ H1 ⟨⟨v4, v5, rfl⟩, ⟨W1, R1⟩, ts⟩
      refine ⟨_, rfl, A.tA, _, rfl, R1.gWaits, _, _, rfl, rfl, _, rfl, A.tA, _, rfl, .inl ⟨_, kS' "waits", R1.tl, rfl, (by show 4 < sizeLine; decide), rfl⟩, ?_⟩
      have R2 := R1.upWaits (t.waits + 1)
      have ew : waitS e s = { t with waits := t.waits + 1 } := by rw [et]; rfl
      refine q _ ?_ (k.wait VE.ok) ?_
      · show OwnAt K H0 _ A (waitS e s)
        rw [ew]
        exact ⟨_, R2⟩
      · exact fun a xs h => (ts_upd (K := K) _ R1.tl trivial) a xs (ts a xs h)
end
end RM

set_option Elab.async false
set_option linter.all false
set_option maxRecDepth 100000
set_option maxHeartbeats 4000000
set_option pp.maxSteps 600
set_option pp.deepTerms false
namespace RM
open PySem PySem.Spec PyProof.Rows L2
theorem rept_add {α : Type} (f : α → α) (a : Nat) : ∀ (b : Nat) (s : α), rept f (b + a) s = rept f b (rept f a s)
  | 0, s => by rw [Nat.zero_add]; rfl
  | b + 1, s => by
    rw [Nat.succ_add]
    show f (rept f (b + a) s) = f (rept f b (rept f a s))
    rw [rept_add f a b s]
theorem goB_end {e : RE} {p : List Int} {l : List Stm} {i : Nat} {s t : RS} (h : goB e p 0 (l.take i) s = t) (st : t.stop = true) : goB e p 0 l s = t := by
  have := goB_app e p (l.take i) (l.drop i) 0 s
  rw [List.take_append_drop, h, goB_stop _ _ st] at this
  exact this
theorem kB_mem2 {ks : List Str} : ∀ {l : List Stm}, kB ks l = true → ∀ {s : Stm}, s ∈ l → kS ks s = true
  | [], _, s, h => by simp at h
  | t :: r, w, s, h => by
    rw [kB, Bool.and_eq_true] at w
    rcases List.mem_cons.mp h with rfl | h
    · exact w.1
    · exact kB_mem2 w.2 h
theorem nB_len : ∀ l : List Stm, l.length ≤ nB l
  | [] => Nat.le_refl _
  | s :: r => by
    have := nB_len r
    have h1 : 1 ≤ nS s := by cases s <;> simp only [nS] <;> omega
    rw [nB, List.length_cons]
    omega
theorem fold_stop (cs : List WM) : ∀ (it : List Int) (s : RS), (it.foldl (stepW cs) s).stop = s.stop
  | [], _ => rfl
  | n :: r, s => (fold_stop cs r (stepW cs s n)).trans rfl
theorem st_kind (st : Stm) : st = .stop ∨ (∃ v n a b, st = .ite v n a b) ∨ (∃ v u a b, st = .same v u a b) ∨ (∃ n a, st = .rep n a) ∨
    (st.word ≠ "stop" ∧ st.word ≠ "if" ∧ st.word ≠ "same" ∧ st.word ≠ "repeat" ∧ dS st = 0 ∧ nS st = 1 ∧ ∀ e p s, (goS e p st s).stop = s.stop) := by
  cases st with
  | stop => exact .inl rfl
  | ite v n a b => exact .inr (.inl ⟨_, _, _, _, rfl⟩)
  | same v n a b => exact .inr (.inr (.inl ⟨_, _, _, _, rfl⟩))
  | rep n a => exact .inr (.inr (.inr (.inl ⟨_, _, rfl⟩)))
  | read v k => exact .inr (.inr (.inr (.inr ⟨by show ("read" : Str) ≠ _; decide, by show ("read" : Str) ≠ _; decide, by show ("read" : Str) ≠ _; decide, by show ("read" : Str) ≠ _; decide, by simp [dS], by simp [nS], fun e p s => by rw [goS]; rfl⟩)))
  | set v k => exact .inr (.inr (.inr (.inr ⟨by show ("set" : Str) ≠ _; decide, by show ("set" : Str) ≠ _; decide, by show ("set" : Str) ≠ _; decide, by show ("set" : Str) ≠ _; decide, by simp [dS], by simp [nS], fun e p s => by rw [goS]; rfl⟩)))
  | copy v k => exact .inr (.inr (.inr (.inr ⟨by show ("copy" : Str) ≠ _; decide, by show ("copy" : Str) ≠ _; decide, by show ("copy" : Str) ≠ _; decide, by show ("copy" : Str) ≠ _; decide, by simp [dS], by simp [nS], fun e p s => by rw [goS]; rfl⟩)))
  | print v => exact .inr (.inr (.inr (.inr ⟨by show ("print" : Str) ≠ _; decide, by show ("print" : Str) ≠ _; decide, by show ("print" : Str) ≠ _; decide, by show ("print" : Str) ≠ _; decide, by simp [dS], by simp [nS], fun e p s => by rw [goS]; rfl⟩)))
  | say v => exact .inr (.inr (.inr (.inr ⟨by show ("say" : Str) ≠ _; decide, by show ("say" : Str) ≠ _; decide, by show ("say" : Str) ≠ _; decide, by show ("say" : Str) ≠ _; decide, by simp [dS], by simp [nS], fun e p s => by rw [goS]; rfl⟩)))
  | wait => exact .inr (.inr (.inr (.inr ⟨by show ("wait" : Str) ≠ _; decide, by show ("wait" : Str) ≠ _; decide, by show ("wait" : Str) ≠ _; decide, by show ("wait" : Str) ≠ _; decide, by simp [dS], by simp [nS], fun e p s => by
    rw [goS]
    show ((itemAt e s).foldl (stepW e.cs) s).stop = s.stop
    exact fold_stop _ _ _⟩)))
section
variable {P : Program} {w : World} {K : PySem.W.Frag} {mg : Str → Option Value} {base : Heap}
def spGo (K : PySem.W.Frag) (n : Nat) : Sp := fun vs H Q _ => match vs with
  | [b, p, x, y] => ∃ H0 A e ks s l pth, x = .ref A.pA ∧ y = .ref A.tA ∧ OwnAt K H0 H A s ∧ EnvO K H0 A e ks ∧ ROk e ks s ∧ Dp K H0 b (.list (encB true l)) ∧ Dp K H p (pathD pth) ∧ s.stop = false ∧ dB l ≤ n ∧ kB ks l = true ∧ wB l = true ∧
    sz s + 2 * nB l ≤ 5000 ∧ pth.length + 2 * n ≤ 900 ∧ ∀ H', OwnAt K H0 H' A (goB e pth 0 l s) → ROk e ks (goB e pth 0 l s) → TS K H H' → Q (.bl (!(goB e pth 0 l s).stop)) H'
  | _ => False
theorem sc_law_go : FnScope ["_law_body_here", "_law_path", "_law_place", "_law_told", "_law_k", "_law_one", "_law_second", "_law_number", "_law_turn"] ["_law_body_here", "_law_path", "_law_place", "_law_told"] (defScope s_law_go) := ⟨rfl, rfl, rfl, by decide +kernel, rfl, by decide +kernel, by decide +kernel⟩
theorem ok_law_go (T : Top w K mg) {n : Nat} (ih : Cal P w K mg base CX0 (n + 3) "_law_go" (spGo K n)) : Cal P w K mg base CX0 (n + 4) "_law_go" (spGo K (n + 1)) := by
  refine cal_0 (f_law_go T) (g_law_go T) sc_law_go (fun _ _ _ _ _ _ us hl => match us, hl with | [_, _, _, _], _ => rfl) (fun vs H Q E h => match vs, h with | [_, _, _, _], _ => rfl) (fun cdv A outer s H vs Q E hr h => ?_)
  match vs, h with
  | [b, p, x, y], h =>
  obtain ⟨H0, A, e, ks, s, l, pth, rfl, rfl, ⟨W, R⟩, VE, k, hb, hp, hs0, hd, kl, wl, sl, hl, q⟩ := h
  refine ⟨_, (pss_cons (ps_for PassesOwn.never rfl (pi_range1 rfl (z_range T) (pa_cons (pcb (z_len T) call_len_seq boot_len (pa_cons (pv 0) pa_nil)) pa_nil)) (pg_name (i := 4) sc_law_go.nd rfl (Or.inl rfl))
      (pss_cons (ps_set (i := 5) sc_law_go.nd rfl (Or.inl rfl) (pe_ix ix_list (pv 0) (pv 4) (fun _ _ => rfl)))
    (pss_cons (ps_if (pt_cmpR op_eq (pe_ix ix_tup (pv 5) pe_int (fun _ _ => rfl)) pe_str (nomark _))
      (pss_one (ps_ret pe_bl))
      pss_nil)
    (pss_one (ps_if (PW.pt (pw_or (pt_cmpR op_eq (pe_ix ix_tup (pv 5) pe_int (fun _ _ => rfl)) pe_str (nomark _)) (pw_or1 (pt_cmpR op_eq (pe_ix ix_tup (pv 5) pe_int (fun _ _ => rfl)) pe_str (nomark _)))))
      (pss_cons (ps_set (i := 6) sc_law_go.nd rfl (Or.inl rfl) (pe_ix ix_tup (pv 5) pe_int (fun _ _ => rfl)))
    (pss_cons (ps_if (pt_cmpR op_eq (pe_ix ix_tup (pv 5) pe_int (fun _ _ => rfl)) pe_str (nomark _))
      (pss_one (ps_set (i := 6) sc_law_go.nd rfl (Or.inl rfl) (pe_dget2 (hu_of hr) (pe_dget (hu_of hr) (pv 2) pe_str (fun _ _ => rfl)) (pe_ix ix_tup (pv 5) pe_int (fun _ _ => rfl)) pe_int (M2.mk rfl rfl rfl rfl))))
      pss_nil)
    (pss_cons (ps_set (i := 7) sc_law_go.nd rfl (Or.inl rfl) (pct (z_int T) call_int1 boot_int (pa_cons (pe_cmpR op_ne (pe_dget2 (hu_of hr) (pe_dget (hu_of hr) (pv 2) pe_str (fun _ _ => rfl)) (pe_ix ix_tup (pv 5) pe_int (fun _ _ => rfl)) pe_int (M2.mk rfl rfl rfl rfl)) (pv 6) (nomark _)) pa_nil)))
    (pss_one (ps_if (pt_not (pt_val (pc ih hr (pa_cons (pe_ix ix_tup (pv 5) (pe_op op_add pe_int (pv 7)) (fun _ _ => rfl)) (pa_cons (pe_op op_catG (pv 1) (pe_tup (pa_cons (pv 4) (pa_cons (pv 7) pa_nil)))) (pa_cons (pv 2) (pa_cons (pv 3) pa_nil)))))))
      (pss_one (ps_ret pe_bl))
      pss_nil)))))
      (pss_one (ps_if (pt_cmpR op_eq (pe_ix ix_tup (pv 5) pe_int (fun _ _ => rfl)) pe_str (nomark _))
      (pss_one (ps_for PassesOwn.never rfl (pi_range1 rfl (z_range T) (pa_cons (pe_ix ix_tup (pv 5) pe_int (fun _ _ => rfl)) pa_nil)) (pg_name (i := 8) sc_law_go.nd rfl (Or.inl rfl))
      (pss_one (ps_if (pt_not (pt_val (pc ih hr (pa_cons (pe_ix ix_tup (pv 5) pe_int (fun _ _ => rfl)) (pa_cons (pe_op op_catG (pv 1) (pe_tup (pa_cons (pv 4) (pa_cons pe_int pa_nil)))) (pa_cons (pv 2) (pa_cons (pv 3) pa_nil)))))))
      (pss_one (ps_ret pe_bl))
      pss_nil))))
      (pss_one (ps_expr (pc (c_law_do T) hr (pa_cons (pv 5) (pa_cons (pe_op op_catG (pv 1) (pe_tup (pa_cons (pv 4) pa_nil))) (pa_cons (pv 2) (pa_cons (pv 3) pa_nil))))))))))))))
    (pss_one (ps_ret pe_bl))), ?_⟩
  obtain ⟨ba, xs, rfl, hba, hx⟩ := Dp.lst_inv hb
  have lx : xs.length = l.length := by rw [DpAll.len hx, encB_map, List.length_map]
  have ll := cB_len l
  refine ⟨_, rfl, ba, xs, rfl, .inl (R.sm.seq hba), ?_⟩
  have nl := nB_len l
  refine ⟨_, rfl, by omega, by omega, ?_⟩
  refine for_it (walk_range (lo := 0) (n := xs.length)) (fun i σ H' => OwnAt K H0 H' A (goB e pth 0 (l.take i) s) ∧ ROk e ks (goB e pth 0 (l.take i) s) ∧ (goB e pth 0 (l.take i) s).stop = false ∧ TS K H H' ∧ ∃ v4 v5 v6 v7 v8, σ = [some (.ref ba), some p, some (.ref A.pA), some (.ref A.tA), v4, v5, v6, v7, v8])
    ⟨⟨W, R⟩, k, hs0, fun _ _ h => h, _, _, _, _, _, rfl⟩ (fun _ _ _ _ _ => trivial) ?_ ?_
  · rintro i x σ H1 H2 hi ⟨⟨W1, R1⟩, k1, s1, ts, v4, v5, v6, v7, v8, rfl⟩ ⟨rfl, hx1⟩
    obtain rfl : x = V.int (i : Nat) := hx1.trans (congrArg V.int (Int.zero_add _))
    have hil : i < l.length := by omega
    obtain ⟨st, hst⟩ : ∃ st, l[i]? = some st := ⟨_, List.getElem?_eq_getElem hil⟩
    obtain ⟨z, hz⟩ : ∃ z, xs[i]? = some z := ⟨_, List.getElem?_eq_getElem (by omega)⟩
    obtain ⟨dd, hd1, hd2⟩ := DpAll.getV hx hz
    obtain ⟨st', hst', rfl⟩ := encB_get hd1
    obtain rfl : st = st' := Option.some.inj (hst.symm.trans hst')
    have ft := goB_take (e := e) (p := pth) hst s
    have nt := nB_take hst
    have nli := nB_le (l := l) (i + 1)
    have zt := sz_B e (l.take i) pth 0 s
    have mem := List.mem_of_getElem? hst
    have dm := dB_mem mem
    have km := kB_mem2 kl mem
    have wm := wB_all wl _ mem
    obtain ⟨u, eu⟩ : ∃ u, u = goB e pth 0 (l.take i) s := ⟨_, rfl⟩
    rw [← eu] at R1 k1 s1 ft zt
    rw [s1, if_neg Bool.false_ne_true] at ft
    rw [ft]
    have back : ∀ H', (goS e (pth ++ [(i : Int)]) st u).stop = true → OwnAt K H0 H' A (goS e (pth ++ [(i : Int)]) st u) → ROk e ks (goS e (pth ++ [(i : Int)]) st u) → TS K H H' → Q (.bl false) H' := fun H' hs R' k' ts' => by
      have q' := q H'
      rw [goB_end ft hs] at q'
      have q2 := q' R' k' ts'
      rw [hs] at q2
      exact q2
    obtain ⟨sa, sxs, rfl, hsa, hsx⟩ := shape_of hd2
    obtain ⟨pa, rfl, hpa'⟩ := path_inv hp
    have hpa := ts _ _ hpa'
    refine ⟨_, rfl, _, rfl, ba, xs, _, _, rfl, rfl, R1.sm.seq hba, atI_nat hz, ?_⟩
    rcases st_kind st with rfl | ⟨v, n', a, b, rfl⟩ | ⟨v, u', a, b, rfl⟩ | ⟨n', a, rfl⟩ | ⟨w1, w2, w3, w4, ds0, ns1, keepS⟩
    · -- stop
      refine ⟨_, rfl, sa, _, _, _, rfl, rfl, smT R1.sm hsa, at0, rfl, _, rfl, ifT (decide_eq_true rfl) ?_⟩
      refine back _ (by rw [goS]; rfl) ?_ ?_ ts
      · rw [goS]
        exact ⟨W1, { R1 with }⟩
      · rw [goS]
        exact k1.of
    · -- if
      obtain ⟨x0, r0, rfl, d0, hsx⟩ := DpAll.cons_inv hsx
      obtain ⟨x1, r1, rfl, d1, hsx⟩ := DpAll.cons_inv hsx
      obtain ⟨x2, r2, rfl, d2, hsx⟩ := DpAll.cons_inv hsx
      obtain ⟨x3, r3, rfl, d3, hsx⟩ := DpAll.cons_inv hsx
      obtain rfl := DpAll.nil_inv hsx
      obtain rfl := Dp.str_inv d0
      obtain rfl := Dp.int_inv d1
      have dab : dB a ≤ n ∧ dB b ≤ n := by
        have : max (dB a) (dB b) + 1 ≤ dB l := dm
        omega
      have kab : kB ks a = true ∧ kB ks b = true := Bool.and_eq_true_iff.mp km
      have wab : wB a = true ∧ wB b = true := by
        have := wB_of wm
        exact ⟨this a (by simp [Stm.bodies]), this b (by simp [Stm.bodies])⟩
      have sz1 : nS (.ite v n' a b) = 1 + max (nB a) (nB b) := by rw [nS]
      rw [sz1] at nt
      refine ⟨_, rfl, sa, _, _, _, rfl, rfl, smT R1.sm hsa, at0, rfl, _, rfl, ifF (decide_eq_false fun z => absurd (V.str.inj z) (by show ("if" : Str) ≠ "stop"; decide)) ?_⟩
      refine ⟨_, rfl, sa, _, _, _, rfl, rfl, smT R1.sm hsa, at0, rfl, _, rfl, ifT (decide_eq_true rfl) (ifT rfl ?_)⟩
      refine ⟨_, rfl, sa, _, _, _, rfl, rfl, smT R1.sm hsa, at2, ?_⟩
      refine ⟨_, rfl, sa, _, _, _, rfl, rfl, smT R1.sm hsa, at0, rfl, _, rfl, ifF (decide_eq_false fun z => absurd (V.str.inj z) (by show ("if" : Str) ≠ "same"; decide)) ?_⟩
      refine ⟨_, rfl, A.pA, _, rfl, R1.gHeld, A.hd, rfl, .inl ⟨_, .of R1.held⟩, _, rfl, sa, _, _, _, rfl, rfl, smT R1.sm hsa, at1, (wGet u.held v).map V.int, .inl ⟨mK u.held, .inr v, .of R1.held, rfl, (valV_get _ _).symm⟩, ?_⟩
      rw [getD_v]
      refine ⟨_, rfl, rfl, .inr ⟨_, rfl, ?_⟩⟩
      by_cases hc : vOf u v = n'
      · have ek : (!decide (V.int (vOf u v) = V.int n')) = false := by rw [decide_eq_true (congrArg V.int hc)]; rfl
        rw [ek]
        refine ⟨_, rfl, _, rfl, _, _, rfl, rfl, sa, _, _, x2, rfl, rfl, smT R1.sm hsa, at3, ?_⟩
        refine ⟨_, rfl, _, rfl, _, rfl, (by show 2 ≤ sizeLine; decide), fun p1 hp1 => ?_⟩
        refine catA_of (smT (smNew1 hp1 _) hpa) (SqT.of upd_same) (Nat.le_of_lt (small6' (by rw [List.length_map]; show pth.length + 2 ≤ 6000; omega))) fun t3 H3 s3 ht => ?_
        have e3 : Same H2 H3 := (smNew1 hp1 _).trans s3
        have hpt : Dp K H3 (.ref t3) (pathD ((pth ++ [(i : Int)]) ++ [0])) := path_dp (by rw [List.append_assoc, List.map_append]; exact ht)
        have eg : goS e (pth ++ [(i : Int)]) (.ite v n' a b) u = goB e ((pth ++ [(i : Int)]) ++ [0]) 0 a u := by
          rw [goS]
          show (if vOf u v = n' then _ else _) = _
          rw [if_pos hc]
        refine ⟨_, rfl, _, rfl, H0, A, e, ks, u, a, _, rfl, rfl, ⟨W1, R1.keep e3⟩, VE, k1, d2, hpt, s1, dab.1, kab.1, wab.1, by omega, by rw [List.length_append, List.length_append]; show pth.length + 1 + 1 + 2 * n ≤ 900; omega, fun H' R' k' ts' => ?_⟩
        rw [← eg] at R' k' ⊢
        have ts2 : TS K H H' := fun a xs h => ts' a xs (smT e3 (ts a xs h))
        refine ⟨_, rfl, ifB (fun hs => ?_) (fun hs => ?_)⟩
        · exact back H' (by simpa using hs) R' k' ts2
        · exact ⟨R', k', by simpa using hs, ts2, _, _, _, _, _, rfl⟩
      · have ek : (!decide (V.int (vOf u v) = V.int n')) = true := by rw [decide_eq_false fun z => hc (V.int.inj z)]; rfl
        rw [ek]
        refine ⟨_, rfl, _, rfl, _, _, rfl, rfl, sa, _, _, x3, rfl, rfl, smT R1.sm hsa, at4, ?_⟩
        refine ⟨_, rfl, _, rfl, _, rfl, (by show 2 ≤ sizeLine; decide), fun p1 hp1 => ?_⟩
        refine catA_of (smT (smNew1 hp1 _) hpa) (SqT.of upd_same) (Nat.le_of_lt (small6' (by rw [List.length_map]; show pth.length + 2 ≤ 6000; omega))) fun t3 H3 s3 ht => ?_
        have e3 : Same H2 H3 := (smNew1 hp1 _).trans s3
        have hpt : Dp K H3 (.ref t3) (pathD ((pth ++ [(i : Int)]) ++ [1])) := path_dp (by rw [List.append_assoc, List.map_append]; exact ht)
        have eg : goS e (pth ++ [(i : Int)]) (.ite v n' a b) u = goB e ((pth ++ [(i : Int)]) ++ [1]) 0 b u := by
          rw [goS]
          show (if vOf u v = n' then _ else _) = _
          rw [if_neg hc]
        refine ⟨_, rfl, _, rfl, H0, A, e, ks, u, b, _, rfl, rfl, ⟨W1, R1.keep e3⟩, VE, k1, d3, hpt, s1, dab.2, kab.2, wab.2, by omega, by rw [List.length_append, List.length_append]; show pth.length + 1 + 1 + 2 * n ≤ 900; omega, fun H' R' k' ts' => ?_⟩
        rw [← eg] at R' k' ⊢
        have ts2 : TS K H H' := fun a xs h => ts' a xs (smT e3 (ts a xs h))
        refine ⟨_, rfl, ifB (fun hs => ?_) (fun hs => ?_)⟩
        · exact back H' (by simpa using hs) R' k' ts2
        · exact ⟨R', k', by simpa using hs, ts2, _, _, _, _, _, rfl⟩
    · -- same
      obtain ⟨x0, r0, rfl, d0, hsx⟩ := DpAll.cons_inv hsx
      obtain ⟨x1, r1, rfl, d1, hsx⟩ := DpAll.cons_inv hsx
      obtain ⟨x2, r2, rfl, d2, hsx⟩ := DpAll.cons_inv hsx
      obtain ⟨x3, r3, rfl, d3, hsx⟩ := DpAll.cons_inv hsx
      obtain rfl := DpAll.nil_inv hsx
      obtain rfl := Dp.str_inv d0
      obtain rfl := Dp.str_inv d1
      have dab : dB a ≤ n ∧ dB b ≤ n := by
        have : max (dB a) (dB b) + 1 ≤ dB l := dm
        omega
      have kab : kB ks a = true ∧ kB ks b = true := Bool.and_eq_true_iff.mp km
      have wab : wB a = true ∧ wB b = true := by
        have := wB_of wm
        exact ⟨this a (by simp [Stm.bodies]), this b (by simp [Stm.bodies])⟩
      have sz1 : nS (.same v u' a b) = 1 + max (nB a) (nB b) := by rw [nS]
      rw [sz1] at nt
      refine ⟨_, rfl, sa, _, _, _, rfl, rfl, smT R1.sm hsa, at0, rfl, _, rfl, ifF (decide_eq_false fun z => absurd (V.str.inj z) (by show ("same" : Str) ≠ "stop"; decide)) ?_⟩
      refine ⟨_, rfl, sa, _, _, _, rfl, rfl, smT R1.sm hsa, at0, rfl, _, rfl, ifF (decide_eq_false fun z => absurd (V.str.inj z) (by show ("same" : Str) ≠ "if"; decide)) ⟨_, rfl, sa, _, _, _, rfl, rfl, smT R1.sm hsa, at0, rfl, _, rfl, ifT (decide_eq_true rfl) ?_⟩⟩
      refine ⟨_, rfl, sa, _, _, _, rfl, rfl, smT R1.sm hsa, at2, ?_⟩
      refine ⟨_, rfl, sa, _, _, _, rfl, rfl, smT R1.sm hsa, at0, rfl, _, rfl, ifT (decide_eq_true rfl) ?_⟩
      refine ⟨_, rfl, A.pA, _, rfl, R1.gHeld, A.hd, rfl, .inl ⟨_, .of R1.held⟩, _, rfl, sa, _, _, _, rfl, rfl, smT R1.sm hsa, at2, (wGet u.held u').map V.int, .inl ⟨mK u.held, .inr u', .of R1.held, rfl, (valV_get _ _).symm⟩, ?_⟩
      rw [getD_v]
      refine ⟨_, rfl, A.pA, _, rfl, R1.gHeld, A.hd, rfl, .inl ⟨_, .of R1.held⟩, _, rfl, sa, _, _, _, rfl, rfl, smT R1.sm hsa, at1, (wGet u.held v).map V.int, .inl ⟨mK u.held, .inr v, .of R1.held, rfl, (valV_get _ _).symm⟩, ?_⟩
      rw [getD_v]
      refine ⟨_, rfl, rfl, .inr ⟨_, rfl, ?_⟩⟩
      by_cases hc : vOf u v = vOf u u'
      · have ek : (!decide (V.int (vOf u v) = V.int (vOf u u'))) = false := by rw [decide_eq_true (congrArg V.int hc)]; rfl
        rw [ek]
        refine ⟨_, rfl, _, rfl, _, _, rfl, rfl, sa, _, _, x2, rfl, rfl, smT R1.sm hsa, at3, ?_⟩
        refine ⟨_, rfl, _, rfl, _, rfl, (by show 2 ≤ sizeLine; decide), fun p1 hp1 => ?_⟩
        refine catA_of (smT (smNew1 hp1 _) hpa) (SqT.of upd_same) (Nat.le_of_lt (small6' (by rw [List.length_map]; show pth.length + 2 ≤ 6000; omega))) fun t3 H3 s3 ht => ?_
        have e3 : Same H2 H3 := (smNew1 hp1 _).trans s3
        have hpt : Dp K H3 (.ref t3) (pathD ((pth ++ [(i : Int)]) ++ [0])) := path_dp (by rw [List.append_assoc, List.map_append]; exact ht)
        have eg : goS e (pth ++ [(i : Int)]) (.same v u' a b) u = goB e ((pth ++ [(i : Int)]) ++ [0]) 0 a u := by
          rw [goS]
          show (if vOf u v = vOf u u' then _ else _) = _
          rw [if_pos hc]
        refine ⟨_, rfl, _, rfl, H0, A, e, ks, u, a, _, rfl, rfl, ⟨W1, R1.keep e3⟩, VE, k1, d2, hpt, s1, dab.1, kab.1, wab.1, by omega, by rw [List.length_append, List.length_append]; show pth.length + 1 + 1 + 2 * n ≤ 900; omega, fun H' R' k' ts' => ?_⟩
        rw [← eg] at R' k' ⊢
        have ts2 : TS K H H' := fun a xs h => ts' a xs (smT e3 (ts a xs h))
        refine ⟨_, rfl, ifB (fun hs => ?_) (fun hs => ?_)⟩
        · exact back H' (by simpa using hs) R' k' ts2
        · exact ⟨R', k', by simpa using hs, ts2, _, _, _, _, _, rfl⟩
      · have ek : (!decide (V.int (vOf u v) = V.int (vOf u u'))) = true := by rw [decide_eq_false fun z => hc (V.int.inj z)]; rfl
        rw [ek]
        refine ⟨_, rfl, _, rfl, _, _, rfl, rfl, sa, _, _, x3, rfl, rfl, smT R1.sm hsa, at4, ?_⟩
        refine ⟨_, rfl, _, rfl, _, rfl, (by show 2 ≤ sizeLine; decide), fun p1 hp1 => ?_⟩
        refine catA_of (smT (smNew1 hp1 _) hpa) (SqT.of upd_same) (Nat.le_of_lt (small6' (by rw [List.length_map]; show pth.length + 2 ≤ 6000; omega))) fun t3 H3 s3 ht => ?_
        have e3 : Same H2 H3 := (smNew1 hp1 _).trans s3
        have hpt : Dp K H3 (.ref t3) (pathD ((pth ++ [(i : Int)]) ++ [1])) := path_dp (by rw [List.append_assoc, List.map_append]; exact ht)
        have eg : goS e (pth ++ [(i : Int)]) (.same v u' a b) u = goB e ((pth ++ [(i : Int)]) ++ [1]) 0 b u := by
          rw [goS]
          show (if vOf u v = vOf u u' then _ else _) = _
          rw [if_neg hc]
        refine ⟨_, rfl, _, rfl, H0, A, e, ks, u, b, _, rfl, rfl, ⟨W1, R1.keep e3⟩, VE, k1, d3, hpt, s1, dab.2, kab.2, wab.2, by omega, by rw [List.length_append, List.length_append]; show pth.length + 1 + 1 + 2 * n ≤ 900; omega, fun H' R' k' ts' => ?_⟩
        rw [← eg] at R' k' ⊢
        have ts2 : TS K H H' := fun a xs h => ts' a xs (smT e3 (ts a xs h))
        refine ⟨_, rfl, ifB (fun hs => ?_) (fun hs => ?_)⟩
        · exact back H' (by simpa using hs) R' k' ts2
        · exact ⟨R', k', by simpa using hs, ts2, _, _, _, _, _, rfl⟩
    · -- repeat
      obtain ⟨x0, r0, rfl, d0, hsx⟩ := DpAll.cons_inv hsx
      obtain ⟨x1, r1, rfl, d1, hsx⟩ := DpAll.cons_inv hsx
      obtain rfl := DpAll.nil_inv hsx
      obtain rfl := Dp.int_inv d0
      have da : dB a ≤ n := by
        have : dB a + 1 ≤ dB l := dm
        omega
      have ka : kB ks a = true := km
      have wa : wB a = true := wB_of wm a (by simp [Stm.bodies])
      have wn : 0 ≤ n' ∧ n' ≤ 3 := by
        rw [wS, Bool.and_eq_true, Bool.and_eq_true] at wm
        exact ⟨of_decide_eq_true wm.1.1, of_decide_eq_true wm.1.2⟩
      obtain ⟨m, rfl⟩ : ∃ m : Nat, n' = m := ⟨n'.toNat, by omega⟩
      have sz1 : nS (.rep m a) = 1 + m * nB a := by rw [nS]; rfl
      rw [sz1] at nt
      have eg : goS e (pth ++ [(i : Int)]) (.rep m a) u = rept (goB e ((pth ++ [(i : Int)]) ++ [0]) 0 a) m u := by rw [goS]; rfl
      rw [eg] at back ⊢
      refine ⟨_, rfl, sa, _, _, _, rfl, rfl, smT R1.sm hsa, at0, rfl, _, rfl, ifF (decide_eq_false fun z => absurd (V.str.inj z) (by show ("repeat" : Str) ≠ "stop"; decide)) ?_⟩
      refine ⟨_, rfl, sa, _, _, _, rfl, rfl, smT R1.sm hsa, at0, rfl, _, rfl, ifF (decide_eq_false fun z => absurd (V.str.inj z) (by show ("repeat" : Str) ≠ "if"; decide)) ⟨_, rfl, sa, _, _, _, rfl, rfl, smT R1.sm hsa, at0, rfl, _, rfl, ifF (decide_eq_false fun z => absurd (V.str.inj z) (by show ("repeat" : Str) ≠ "same"; decide)) ?_⟩⟩
      refine ⟨_, rfl, sa, _, _, _, rfl, rfl, smT R1.sm hsa, at0, rfl, _, rfl, ifT (decide_eq_true rfl) ?_⟩
      refine ⟨_, rfl, sa, _, _, _, rfl, rfl, smT R1.sm hsa, at1, _, rfl, by omega, by omega, ?_⟩
      refine for_it (walk_range (lo := 0) (n := m)) (fun j σ H' => OwnAt K H0 H' A (rept (goB e ((pth ++ [(i : Int)]) ++ [0]) 0 a) j u) ∧ ROk e ks (rept (goB e ((pth ++ [(i : Int)]) ++ [0]) 0 a) j u) ∧ (rept (goB e ((pth ++ [(i : Int)]) ++ [0]) 0 a) j u).stop = false ∧ TS K H H' ∧ ∃ v6 v7 v8, σ = [some (.ref ba), some (.ref pa), some (.ref A.pA), some (.ref A.tA), some (.int (i : Nat)), some (.ref sa), v6, v7, v8])
        ⟨⟨W1, R1⟩, k1, s1, ts, _, _, _, rfl⟩ (fun _ _ _ _ _ => trivial) ?_ ?_
      · rintro j xj σ H3 H4 hj ⟨⟨W3, R3⟩, k3, s3, ts3, v6, v7, v8, rfl⟩ ⟨rfl, rfl⟩
        have zr := sz_rept e a ((pth ++ [(i : Int)]) ++ [0]) 0 u j
        have i1 : (j + 1) * nB a ≤ m * nB a := Nat.mul_le_mul_right _ hj
        have i2 : (j + 1) * nB a = j * nB a + nB a := Nat.succ_mul ..
        refine ⟨_, rfl, sa, _, _, _, rfl, rfl, smT R3.sm hsa, at2, ?_⟩
        refine ⟨_, rfl, _, rfl, (by show 2 ≤ sizeLine; decide), fun p1 hp1 => ?_⟩
        refine catA_of (smT (smNew1 hp1 _) (ts3 _ _ hpa')) (SqT.of upd_same) (Nat.le_of_lt (small6' (by rw [List.length_map]; show pth.length + 2 ≤ 6000; omega))) fun t5 H5 s5 ht => ?_
        have e5 : Same H4 H5 := (smNew1 hp1 _).trans s5
        have hpt : Dp K H5 (.ref t5) (pathD ((pth ++ [(i : Int)]) ++ [0])) := path_dp (by rw [List.append_assoc, List.map_append]; exact ht)
        refine ⟨_, rfl, _, rfl, H0, A, e, ks, _, a, _, rfl, rfl, ⟨W3, R3.keep e5⟩, VE, k3, d1, hpt, s3, da, ka, wa, by omega, by rw [List.length_append, List.length_append]; show pth.length + 1 + 1 + 2 * n ≤ 900; omega, fun H' R' k' ts' => ?_⟩
        have er : goB e ((pth ++ [(i : Int)]) ++ [0]) 0 a (rept (goB e ((pth ++ [(i : Int)]) ++ [0]) 0 a) j u) = rept (goB e ((pth ++ [(i : Int)]) ++ [0]) 0 a) (j + 1) u := rfl
        rw [er] at R' k' ⊢
        have ts2 : TS K H H' := fun a xs h => ts' a xs (smT e5 (ts3 a xs h))
        refine ⟨_, rfl, ifB (fun hs => ?_) (fun hs => ?_)⟩
        · have hs' : (rept (goB e ((pth ++ [(i : Int)]) ++ [0]) 0 a) (j + 1) u).stop = true := by simpa using hs
          have em : rept (goB e ((pth ++ [(i : Int)]) ++ [0]) 0 a) m u = rept (goB e ((pth ++ [(i : Int)]) ++ [0]) 0 a) (j + 1) u := by
            have := rept_add (goB e ((pth ++ [(i : Int)]) ++ [0]) 0 a) (j + 1) (m - (j + 1)) u
            rw [show m - (j + 1) + (j + 1) = m by omega, rept_stop (fun s hs => goB_stop a 0 hs) hs'] at this
            exact this
          rw [em] at back
          exact back H' hs' R' k' ts2
        · exact ⟨R', k', by simpa using hs, ts2, _, _, _, rfl⟩
      · rintro σ H3 ⟨R3, k3, s3, ts3, v6, v7, v8, rfl⟩
        exact ⟨R3, k3, s3, ts3, _, _, _, _, _, rfl⟩
    · -- plain
      refine ⟨_, rfl, sa, _, _, _, rfl, rfl, smT R1.sm hsa, at0, rfl, _, rfl, ifF (decide_eq_false fun z => w1 (V.str.inj z)) ?_⟩
      refine ⟨_, rfl, sa, _, _, _, rfl, rfl, smT R1.sm hsa, at0, rfl, _, rfl, ifF (decide_eq_false fun z => w2 (V.str.inj z)) ⟨_, rfl, sa, _, _, _, rfl, rfl, smT R1.sm hsa, at0, rfl, _, rfl, ifF (decide_eq_false fun z => w3 (V.str.inj z)) ?_⟩⟩
      refine ⟨_, rfl, sa, _, _, _, rfl, rfl, smT R1.sm hsa, at0, rfl, _, rfl, ifF (decide_eq_false fun z => w4 (V.str.inj z)) ?_⟩
      refine ⟨_, rfl, _, rfl, _, rfl, (by show 1 ≤ sizeLine; decide), fun p1 hp1 => ?_⟩
      refine path_snoc (smT (smNew1 hp1 _) hpa) (SqT.of upd_same) (Nat.le_of_lt (small6' (by omega))) fun here H3 s3 hh => ?_
      have e3 : Same H2 H3 := (smNew1 hp1 _).trans s3
      refine ⟨_, rfl, _, rfl, H0, A, e, ks, u, st, _, rfl, rfl, ⟨W1, R1.keep e3⟩, VE, k1, hd2, hh, ds0, w1, w2, w3, w4, km, by omega, fun H' R' k' ts' => ?_⟩
      exact ⟨R', k', by rw [keepS]; exact s1, fun a xs h => ts' a xs (smT e3 (ts a xs h)), _, _, _, _, _, rfl⟩
  · rintro σ H1 ⟨R1, k1, s1, ts, v4, v5, v6, v7, v8, rfl⟩
    rw [lx, List.take_length] at R1 k1 s1
    have q2 := q _ R1 k1 ts
    rw [s1] at q2
    exact q2
theorem c_law_go (T : Top w K mg) : ∀ n, Cal P w K mg base CX0 (n + 3) "_law_go" (spGo K n)
  | 0 => cal_never (f_law_go T) (g_law_go T) (ps := ["_law_body_here", "_law_path", "_law_place", "_law_told"]) (fun _ _ _ _ _ _ us hl => match us, hl with | [_, _, _, _], _ => rfl) fun vs H Q E h => by
      match vs, h with
      | [b, p, x, y], h =>
      obtain ⟨_, _, _, _, _, l, _, _, _, _, _, _, _, _, _, hn, _⟩ := h
      have := dB_one l
      omega
  | n + 1 => ok_law_go T (c_law_go T n)
end
end RM

set_option Elab.async false
set_option linter.all false
set_option maxRecDepth 100000
set_option maxHeartbeats 4000000
set_option pp.maxSteps 600
set_option pp.deepTerms false
namespace RM
open PySem PySem.Spec PyProof.Rows L2
theorem paired_join {α β γ : Type} {F : α → β → Prop} {G : γ → β → Prop} : ∀ {l : List α} {m : List β} {n : List γ}, Paired F l m → Paired G n m → Paired (fun x z => ∃ y, F x y ∧ G z y) l n
  | _, _, _, .nil, .nil => .nil
  | _, _, _, .cons h t, .cons g u => .cons ⟨_, h, g⟩ (paired_join t u)
section
variable {P : Program} {w : World} {K : PySem.W.Frag} {mg : Str → Option Value} {base : Heap}
/-- what an own run tells -/
def ToldAt (K : PySem.W.Frag) (H : Hp) (t : Addr) (s : RS) : Prop := ∃ pr se mo nw ls ws m, H t = some (.dK [(kS' "printed", .ref pr), (kS' "seen", .ref se), (kS' "waits", .int (s.waits : Nat)), (kS' "moments", .ref mo), (kS' "ended", .ref nw)]) ∧
  H pr = some (.lst (s.printed.map V.int)) ∧ H se = some (.lst ls) ∧ DpAll K H ls (s.seen.map seenD) ∧ H mo = some (.lst ws) ∧ DpAll K H ws (s.went.map stD) ∧ H nw = some (.dK (mK m)) ∧ m.Perm s.now
def spLRun (K : PySem.W.Frag) : Sp := fun vs H Q _ => match vs with
  | [c, p] => ∃ r vm l gs pn its, ∃ plan : List (List Int), ∃ vm' gs', c = .ref r ∧ p = .ref pn ∧ CaseAt K H r vm l gs ∧ SqL K H pn (its.map V.ref) ∧ Paired (fun a ns => SqL K H a (ns.map V.int)) its plan ∧ plan.flatten.length ≤ 900 ∧ (∀ it ∈ plan, ∀ n ∈ it, 0 ≤ n ∧ n < gs.length) ∧
    vm'.Perm vm ∧ sortedS (wKeys vm') = true ∧ Paired (fun g' g => List.Perm g' g) gs' gs ∧
    ∀ t H', Same H H' → H t = none → ToldAt K H' t (goB ⟨gs', plan⟩ [] 0 l ⟨[], vm', [], [wVals vm'], [], 0, false⟩) → Q (.ref t) H'
  | _ => False
theorem sc_law_run : FnScope ["_law_case_here", "_law_schedule_here", "_law_values_here", "_law_body_here", "_law_changes_here", "_law_place", "_law_key", "_law_told"] ["_law_case_here", "_law_schedule_here"] (defScope s_law_run) := ⟨rfl, rfl, rfl, by decide +kernel, rfl, by decide +kernel, by decide +kernel⟩
theorem c_law_run (T : Top w K mg) : Cal P w K mg base CX0 8 "_law_run" (spLRun K) := by
  refine cal_0 (f_law_run T) (g_law_run T) sc_law_run (fun _ _ _ _ _ _ us hl => match us, hl with | [_, _], _ => rfl) (fun vs H Q E h => match vs, h with | [_, _], _ => rfl) (fun cdv A outer s H vs Q E hr h => ?_)
  match vs, h with
  | [c, p], h =>
  obtain ⟨r, vm, l, gs, pn, its, plan, vm', gs', rfl, rfl, ca, hpn, pp, fl, rng, pvm, srt, pgs, q⟩ := h
  obtain ⟨va, bl, cl, ys, cv, h1, h2, h3, h4, h5, h6⟩ := ca.at_
  refine ⟨_, (pss_cons (ps_asg (pv 0) (pg_lst rfl (pgs_cons (pg_name (i := 2) sc_law_run.nd rfl (Or.inr rfl)) (pgs_cons (pg_name (i := 3) sc_law_run.nd rfl (Or.inl rfl)) (pgs_cons (pg_name (i := 4) sc_law_run.nd rfl (Or.inl rfl)) pgs_nil)))))
    (pss_cons (ps_set (i := 5) sc_law_run.nd rfl (Or.inl rfl) pe_dnewK)
    (pss_cons (ps_dput (hu_of hr) (pv 5) pe_str pe_dnewK rfl)
    (pss_cons (ps_lock (ps_for PassesOwn.never rfl (pi_keys (pv 2)) (pg_name (i := 6) sc_law_run.nd rfl (Or.inl rfl))
      (pss_one (ps_dput (hu_of hr) (pe_dget (hu_of hr) (pv 5) pe_str (fun _ _ => rfl)) (pv 6) (pe_dget (hu_of hr) (pv 2) (pv 6) (fun _ _ => rfl)) rfl))))
    (pss_cons (ps_dput (hu_of hr) (pv 5) pe_str pe_dnewK rfl)
    (pss_cons (ps_dput (hu_of hr) (pv 5) pe_str (pv 1) rfl)
    (pss_cons (ps_dput (hu_of hr) (pv 5) pe_str (pv 4) rfl)
    (pss_cons (ps_set (i := 7) sc_law_run.nd rfl (Or.inl rfl) pe_dnewK)
    (pss_cons (ps_dput (hu_of hr) (pv 7) pe_str (pe_lst pa_nil) rfl)
    (pss_cons (ps_dput (hu_of hr) (pv 7) pe_str (pe_lst pa_nil) rfl)
    (pss_cons (ps_dput (hu_of hr) (pv 7) pe_str pe_int rfl)
    (pss_cons (ps_dput (hu_of hr) (pv 7) pe_str (pe_lst (pa_cons (pct (z_tuple T) call_tuple_of boot_tuple (pa_cons (pe_lc (own := [("_law_key", 6)]) rfl sc_law_run.nd (pi_list (pcb (z_sorted T) (call_sortedD rfl) boot_sorted (pa_cons (pv 2) pa_nil))) (blkOk_by (own := [("_law_key", 6)]) (N := ["_law_case_here", "_law_schedule_here", "_law_values_here", "_law_body_here", "_law_changes_here", "_law_place", "_law_key", "_law_told"]) (sc := defScope s_law_run) (by decide +kernel)) (fun _ _ _ _ _ => (pg_name (i := 6) sc_law_run.nd rfl (Or.inl rfl) (Or.inr rfl))) (fun _ _ _ _ _ => pts_nil) (fun _ _ _ _ _ => (pe_dget (hu_of hr) (pv 2) (pv 6) (fun _ _ => rfl)))) pa_nil)) pa_nil)) rfl)
    (pss_cons (ps_expr (pc (c_law_go T 3) hr (pa_cons (pv 3) (pa_cons (pe_tup pa_nil) (pa_cons (pv 5) (pa_cons (pv 7) pa_nil))))))
    (pss_cons (ps_dput (hu_of hr) (pv 7) pe_str (pe_dget (hu_of hr) (pv 5) pe_str (fun _ _ => rfl)) rfl)
    (pss_one (ps_ret (pv 7))))))))))))))))), ?_⟩
  refine ⟨_, rfl, r, _, rfl, SqL.of h1, rfl, _, _, rfl, _, _, rfl, _, _, rfl, rfl, ?_⟩
  refine fun pA hpA => ?_
  have okv := ca.ov.1
  have lv3 := ca.ov.2.2
  -- place["now"] = {}
  refine fun nw hnw => ?_
  have nwA : pA ≠ nw := fun z => by rw [← z, upd_same] at hnw; cases hnw
  have nw0 : H nw = none := (smNew1 hpA _).free hnw
  refine ⟨_, rfl, pA, _, rfl, .inl ⟨[], kS' "now", by rw [upd_ne nwA]; exact upd_same, rfl, (by show 0 < sizeLine; decide), rfl⟩, ?_⟩
  obtain ⟨H2, e2⟩ : ∃ H2, H2 = upd (upd (upd H pA (.dK [])) nw (.dK [])) pA (.dK (putK [] (kS' "now") (.ref nw))) := ⟨_, rfl⟩
  have pA2 : H2 pA = some (.dK [(kS' "now", .ref nw)]) := by rw [e2, upd_same]; rfl
  have nw2 : H2 nw = some (.dK []) := by rw [e2, upd_ne (Ne.symm nwA), upd_same]
  have s2 : Same H H2 := by rw [e2]; exact smOut (smNew (smNew1 hpA _) hnw _) hpA _
  rw [← e2]
  clear e2
  -- the values
  have hva := s2 _ _ h2
  have vnw : va ≠ nw := ne_of_none h2 nw0
  have vpA : va ≠ pA := ne_of_none h2 hpA
  refine ⟨va, .dK (mK vm), hva, trivial, fun od => ?_⟩
  have lgm : (mK vm).length = vm.length := List.length_map ..
  have cellA : ∀ j, (upd (upd H2 nw (.dK (mK (vm.take j)))) va (.frz od (.dK (mK vm)))) pA = some (.dK [(kS' "now", .ref nw)]) := fun j => by
    rw [upd_ne (Ne.symm vpA), upd_ne nwA]
    exact pA2
  have st0 : upd H2 va (.frz od (.dK (mK vm))) = upd (upd H2 nw (.dK (mK (vm.take 0)))) va (.frz od (.dK (mK vm))) := by
    rw [List.take_zero]
    show _ = upd (upd H2 nw (.dK [])) va _
    rw [upd_own nw2]
  rw [st0]
  refine ⟨_, rfl, va, od, rfl, .inl ⟨mK vm, upd_same, for_it walk_keys (fun j σ H' => H' = upd (upd H2 nw (.dK (mK (vm.take j)))) va (.frz od (.dK (mK vm))) ∧ ∃ v6, σ = [some (.ref r), some (.ref pn), some (.ref va), some (.ref bl), some (.ref cl), some (.ref pA), v6, none])
    ⟨rfl, _, rfl⟩ (fun j σ H' _ h => by rw [h.1]; exact upd_same) ?_ ?_⟩⟩
  · rintro j x σ H3 H4 hj ⟨rfl, v6, rfl⟩ ⟨rfl, kz, v2, hkv, rfl⟩
    obtain ⟨z, hz, rfl, rfl⟩ := mK_get hkv
    have hm := List.mem_of_getElem? hz
    have jl := (List.getElem?_eq_some_iff.mp hz).1
    refine ⟨_, rfl, _, rfl, va, .int z.2, rfl, .inl ⟨mK vm, .inr z.1, .inr ⟨od, upd_same⟩, rfl, (valV_mK okv.2 z hm).symm⟩, ?_⟩
    refine ⟨_, rfl, pA, _, rfl, .inl ⟨_, kS' "now", .of (cellA j), rfl, rfl⟩, _, rfl, nw, _, rfl, .inl ⟨mK (vm.take j), .inr z.1, by rw [upd_ne (Ne.symm vnw)]; exact upd_same, rfl, small1000 ?_, rfl⟩, ?_⟩
    · show ((vm.take j).map _).length ≤ 1000
      rw [List.length_map, List.length_take]
      omega
    · refine ⟨?_, _, rfl⟩
      have hnew : z.1 ∉ (vm.take j).map (·.1) := fun hin => by
        obtain ⟨j2, hj2, ej⟩ := List.mem_iff_getElem.mp hin
        rw [List.getElem_map, List.getElem_take] at ej
        have jl2 : j2 < j := by rw [List.length_map, List.length_take] at hj2; omega
        have e3 : (vm.map (·.1))[j2]'(by rw [List.length_map]; omega) = (vm.map (·.1))[j]'(by rw [List.length_map]; omega) := by
          rw [List.getElem_map, List.getElem_map, ej, (List.getElem?_eq_some_iff.mp hz).2]
        have := (List.getElem_inj (h₀ := by rw [List.length_map]; omega) (h₁ := by rw [List.length_map]; omega) okv.2).mp e3
        omega
      rw [put_new hnew, upd_comm vnw, upd_upd, take_more hz]
  rintro σ H3 ⟨rfl, v6, rfl⟩
  rw [lgm, List.take_length]
  refine ⟨upd_same, ?_⟩
  rw [upd_back (by rw [upd_ne vnw]; exact hva)]
  have s3 : Same H (upd H2 nw (.dK (mK vm))) := smOut s2 nw0 _
  obtain ⟨H3, e3, nw3, pA3⟩ : ∃ H3, H3 = upd H2 nw (.dK (mK vm)) ∧ H3 nw = some (.dK (mK vm)) ∧ H3 pA = some (.dK [(kS' "now", .ref nw)]) := ⟨_, rfl, upd_same, by rw [upd_ne nwA]; exact pA2⟩
  rw [← e3] at s3 ⊢
  clear e3 cellA st0 nw2 pA2
  -- held
  refine fun hd hhd => ?_
  have hd0 : H hd = none := s3.free hhd
  have hA : pA ≠ hd := ne_of_none pA3 hhd
  have hN : nw ≠ hd := ne_of_none nw3 hhd
  refine ⟨_, rfl, pA, _, rfl, .inl ⟨_, kS' "held", by rw [upd_ne hA]; exact pA3, rfl, (by show 1 < sizeLine; decide), rfl⟩, ?_⟩
  refine ⟨_, rfl, _, rfl, pA, _, rfl, .inl ⟨_, kS' "plan", upd_same, rfl, (by show 2 < sizeLine; decide), rfl⟩, ?_⟩
  refine ⟨_, rfl, _, rfl, pA, _, rfl, .inl ⟨_, kS' "changes", upd_same, rfl, (by show 3 < sizeLine; decide), rfl⟩, ?_⟩
  obtain ⟨H4, e4⟩ : ∃ H4, H4 = upd (upd (upd (upd H3 hd (.dK [])) pA (.dK (putK [(kS' "now", .ref nw)] (kS' "held") (.ref hd)))) pA (.dK (putK (putK [(kS' "now", .ref nw)] (kS' "held") (.ref hd)) (kS' "plan") (.ref pn)))) pA (.dK (putK (putK (putK [(kS' "now", .ref nw)] (kS' "held") (.ref hd)) (kS' "plan") (.ref pn)) (kS' "changes") (.ref cl))) := ⟨_, rfl⟩
  have pA4 : H4 pA = some (.dK [(kS' "now", .ref nw), (kS' "held", .ref hd), (kS' "plan", .ref pn), (kS' "changes", .ref cl)]) := by rw [e4, upd_same]; rfl
  have hd4 : H4 hd = some (.dK []) := by rw [e4, upd_ne (Ne.symm hA), upd_ne (Ne.symm hA), upd_ne (Ne.symm hA), upd_same]
  have nw4 : H4 nw = some (.dK (mK vm)) := by rw [e4, upd_ne (Ne.symm nwA), upd_ne (Ne.symm nwA), upd_ne (Ne.symm nwA), upd_ne hN]; exact nw3
  have s4 : Same H H4 := by rw [e4]; exact smOut (smOut (smOut (smNew s3 hhd _) hpA _) hpA _) hpA _
  rw [← e4]
  clear e4
  -- told
  refine fun tA htA => ?_
  have tA0 : H tA = none := s4.free htA
  have tpA : pA ≠ tA := ne_of_none pA4 htA
  have tnw : nw ≠ tA := ne_of_none nw4 htA
  have thd : hd ≠ tA := ne_of_none hd4 htA
  refine ⟨(by show 0 ≤ sizeLine; decide), fun pr hpr => ?_⟩
  have ptA : tA ≠ pr := ne_of_none upd_same hpr
  have pr0 : H pr = none := (smNew s4 htA _).free hpr
  refine ⟨_, rfl, tA, _, rfl, .inl ⟨[], kS' "printed", by rw [upd_ne ptA]; exact upd_same, rfl, (by show 0 < sizeLine; decide), rfl⟩, ?_⟩
  obtain ⟨H5, e5⟩ : ∃ H5, H5 = upd (upd (upd H4 tA (.dK [])) pr (.lst [])) tA (.dK (putK [] (kS' "printed") (.ref pr))) := ⟨_, rfl⟩
  have tA5 : H5 tA = some (.dK [(kS' "printed", .ref pr)]) := by rw [e5, upd_same]; rfl
  have pr5 : H5 pr = some (.lst []) := by rw [e5, upd_ne (Ne.symm ptA), upd_same]
  have s45 : Same H4 H5 := by rw [e5]; exact smOut (smNew (smNew1 htA _) hpr _) htA _
  have s5 := s4.trans s45
  rw [← e5]
  clear e5 hpr
  refine ⟨(by show 0 ≤ sizeLine; decide), fun se hse => ?_⟩
  have stA : tA ≠ se := ne_of_none tA5 hse
  have spr : pr ≠ se := ne_of_none pr5 hse
  have se0 : H se = none := s5.free hse
  refine ⟨_, rfl, tA, _, rfl, .inl ⟨_, kS' "seen", by rw [upd_ne stA]; exact tA5, rfl, (by show 1 < sizeLine; decide), rfl⟩, ?_⟩
  refine ⟨_, rfl, tA, _, rfl, .inl ⟨_, kS' "waits", upd_same, rfl, (by show 2 < sizeLine; decide), rfl⟩, ?_⟩
  obtain ⟨H6, e6⟩ : ∃ H6, H6 = upd (upd (upd H5 se (.lst [])) tA (.dK (putK [(kS' "printed", .ref pr)] (kS' "seen") (.ref se)))) tA (.dK (putK (putK [(kS' "printed", .ref pr)] (kS' "seen") (.ref se)) (kS' "waits") (.int 0))) := ⟨_, rfl⟩
  have tA6 : H6 tA = some (.dK [(kS' "printed", .ref pr), (kS' "seen", .ref se), (kS' "waits", .int 0)]) := by rw [e6, upd_same]; rfl
  have se6 : H6 se = some (.lst []) := by rw [e6, upd_ne (Ne.symm stA), upd_ne (Ne.symm stA), upd_same]
  have pr6 : H6 pr = some (.lst []) := by rw [e6, upd_ne (Ne.symm ptA), upd_ne (Ne.symm ptA), upd_ne spr]; exact pr5
  have s46 : Same H4 H6 := by rw [e6]; exact smOut (smOut (smNew s45 hse _) htA _) htA _
  have s6 := s4.trans s46
  rw [← e6]
  clear e6 hse
  -- the first moment
  have okv' : okM vm' := okM_perm okv pvm
  refine ⟨_, rfl, va, mK vm, wKeys vm, rfl, .of (s6 _ _ h2), by unfold mK wKeys; rw [List.map_map, List.map_map]; rfl, by rw [show (wKeys vm).length = vm.length from List.length_map ..]; omega, fun zs nm hperm hsort hnm => ?_⟩
  have ezs : zs = wKeys vm' := by
    have pz : zs.Perm (wKeys vm') := hperm.trans (pvm.symm.map _)
    exact pw_one (sorted_pw hsort) (sorted_pw srt) (pz.nodup_iff.mpr okv'.2) okv'.2 fun z => pz.mem_iff
  subst ezs
  have lv' : (wKeys vm').length ≤ 3 := by rw [show (wKeys vm').length = vm'.length from List.length_map .., pvm.length_eq]; omega
  have e7 := smNew1 hnm (.lst ((wKeys vm').map V.str))
  refine ⟨nm, rfl, ⟨_, SqL.of upd_same⟩, fun D nD => ?_⟩
  refine lc_opt (walk_list (xs := (wKeys vm').map V.str)) (fun (n : Int) y _ => y = .int n) (fun j => (wVals vm')[j]?) nD (small1000 (by rw [List.length_map]; omega)) (fun H' e => SqL.of (e _ _ upd_same)) (fun _ _ _ _ h _ => h) (fun _ _ _ _ _ h _ => h) ?_ ?_
  · rintro j x HA HB N hj eA ⟨rfl, hx⟩ hk _
    rw [List.getElem?_map] at hx
    obtain ⟨z, hz, rfl⟩ := Option.map_eq_some_iff.mp hx
    unfold wKeys at hz
    rw [List.getElem?_map] at hz
    obtain ⟨qz, hqz, rfl⟩ := Option.map_eq_some_iff.mp hz
    refine ⟨rfl, yesI ?_⟩
    refine ⟨_, rfl, _, rfl, va, .int qz.2, rfl, .inl ⟨mK vm, .inr qz.1, .of ((s6.trans (e7.trans eA)) _ _ h2), rfl, ?_⟩, ?_⟩
    · show _ = valV (mK vm) _
      rw [valV_get, ← wGet_perm okv.2 pvm, wGet_mem okv'.2 (List.mem_of_getElem? hqz)]
      rfl
    · exact hk _ _ qz.2 (by show (vm'.map (·.2))[j]? = _; rw [List.getElem?_map, hqz]; rfl) (Same.refl _) rfl
  intro HA yv eA hD hp'
  have lvv : ((wKeys vm').map V.str).length = (wVals vm').length := by unfold wKeys wVals; rw [List.length_map, List.length_map, List.length_map]
  rw [lvv, some_range] at hp'
  have hyv : yv = (wVals vm').map V.int := paired_eq hp'
  refine ⟨D, yv, rfl, .inl ⟨SqL.of hD, fun tp htp => ?_⟩⟩
  have s6A : Same H6 (upd HA tp (.tup yv)) := smNew (e7.trans eA) htp _
  refine ⟨(by show 1 ≤ sizeLine; decide), fun mo hmo => ?_⟩
  have s6B : Same H6 (upd (upd HA tp (.tup yv)) mo (.lst [.ref tp])) := smNew s6A hmo _
  have tA7 := s6B _ _ tA6
  have mtA : tA ≠ mo := ne_of_none (s6A _ _ tA6) hmo
  have mpr : pr ≠ mo := ne_of_none (s6A _ _ pr6) hmo
  have mse : se ≠ mo := ne_of_none (s6A _ _ se6) hmo
  have mo0 : H mo = none := (s6.trans s6A).free hmo
  have tpm : tp ≠ mo := ne_of_none upd_same hmo
  refine ⟨_, rfl, tA, _, rfl, .inl ⟨_, kS' "moments", tA7, rfl, (by show 3 < sizeLine; decide), rfl⟩, ?_⟩
  obtain ⟨H8, e8⟩ : ∃ H8, H8 = upd (upd (upd HA tp (.tup yv)) mo (.lst [.ref tp])) tA (.dK (putK [(kS' "printed", .ref pr), (kS' "seen", .ref se), (kS' "waits", .int 0)] (kS' "moments") (.ref mo))) := ⟨_, rfl⟩
  have tA8 : H8 tA = some (.dK [(kS' "printed", .ref pr), (kS' "seen", .ref se), (kS' "waits", .int 0), (kS' "moments", .ref mo)]) := by rw [e8, upd_same]; rfl
  have ne8 : ∀ {c o}, c ≠ tA → H6 c = some o → H8 c = some o := fun hn ho => by
    rw [e8, upd_ne hn]
    exact s6B _ _ ho
  have mo8 : H8 mo = some (.lst [.ref tp]) := by rw [e8, upd_ne (Ne.symm mtA)]; exact upd_same
  have tp8 : H8 tp = some (.tup yv) := by
    rw [e8, upd_ne (Ne.symm (ne_of_none ((e7.trans eA) _ _ tA6) htp)), upd_ne tpm, upd_same]
  have s8 : Same H H8 := by rw [e8]; exact smOut (s6.trans s6B) tA0 _
  rw [← e8]
  have R8 : OwnW K H H8 ⟨pA, tA, nw, hd, pr, se, mo, cl, pn⟩ ⟨vm, [.ref tp], []⟩ ⟨[], vm', [], [wVals vm'], [], 0, false⟩ := by
    refine { sm := s8, fa := hpA, ft := tA0, fn := nw0, fh := hd0, fp := pr0, fs := se0, fm := mo0, nd := ?_, nl := ?_, pl := ne8 tpA (s46 _ _ pA4), tl := tA8, now := ne8 tnw (s46 _ _ nw4), pm := pvm.symm, held := ne8 thd (s46 _ _ hd4), pr := ne8 (Ne.symm ptA) pr6, se := ne8 (Ne.symm stA) se6, dl := .nil, mo := mo8, dw := .cons (st_dp (SqT.of (by rw [tp8, hyv]))) .nil }
    · simp [tpA, nwA, hA, Ne.symm tnw, Ne.symm thd, hN]
    · simp [spr, mpr, mse]
  clear e8 ne8
  have lgs : gs'.length = gs.length := pgs.length
  have ksub : ∀ k, k ∈ wKeys vm → k ∈ wKeys vm' := fun k hk => (pvm.map (·.1)).mem_iff.mpr hk
  have lvm : (wKeys vm').length = vm.length := by rw [show (wKeys vm').length = vm'.length from List.length_map .., pvm.length_eq]
  have EO : EOk ⟨gs', plan⟩ (wKeys vm') := by
    refine ⟨fun g hg => ?_, fun it hit n hn => by rw [lgs]; exact rng it hit n hn, srt, by rw [lvm]; exact ca.ov.2.1, by omega⟩
    obtain ⟨g0, hg0, p⟩ := paired_mem' pgs g hg
    have og := ca.og g0 hg0
    exact ⟨okM_perm og.1 p, fun k hk => ksub k (og.2.1 k ((p.map (·.1)).mem_iff.mp hk))⟩
  have VE : EnvO K H ⟨pA, tA, nw, hd, pr, se, mo, cl, pn⟩ ⟨gs', plan⟩ (wKeys vm') := ⟨⟨cv, SqL.of h5, paired_mono (paired_join h6 pgs) fun _ _ ⟨g0, z1, z2⟩ => ⟨g0, z1, z2.symm⟩⟩, ⟨its, hpn, pp⟩, EO⟩
  have kk : ROk ⟨gs', plan⟩ (wKeys vm') ⟨[], vm', [], [wVals vm'], [], 0, false⟩ := ⟨okv', rfl, Nat.le_refl 1, by show 1 + plan.flatten.length ≤ 1000; omega⟩
  have nb := nB_most ca.wl (by have := ca.dl; omega) (by have := ca.cl; omega)
  refine ⟨_, rfl, (by show 0 ≤ sizeLine; decide), fun p0 hp0 => ?_⟩
  have s9 := smNew1 hp0 (.tup [])
  refine ⟨_, rfl, _, rfl, H, _, _, _, _, l, [], rfl, rfl, ⟨_, R8.keep s9⟩, VE, kk, .lst (SqL.of h3) h4, path0 (SqT.of upd_same), rfl, ca.dl, kB_mono ksub l ca.kl, ca.wl, by show 0 + 2 * nB l ≤ 5000; omega, by show 0 + 2 * 3 ≤ 900; omega, fun H9 R9 k9 ts9 => ?_⟩
  obtain ⟨W9, R9⟩ := R9
  refine ⟨_, rfl, pA, _, rfl, R9.gNow, _, rfl, tA, _, rfl, .inl ⟨_, kS' "ended", R9.tl, rfl, (by show 4 < sizeLine; decide), rfl⟩, ?_⟩
  have ts10 := ts_upd (K := K) (.dK (putK [(kS' "printed", .ref pr), (kS' "seen", .ref se), (kS' "waits", .int ((goB ⟨gs', plan⟩ [] 0 l ⟨[], vm', [], [wVals vm'], [], 0, false⟩).waits : Nat)), (kS' "moments", .ref mo)] (kS' "ended") (.ref nw))) R9.tl trivial
  refine ⟨_, rfl, q tA _ (smOut R9.sm tA0 _) tA0 ⟨pr, se, mo, nw, W9.ls, W9.ws, W9.m, ?_, lst_dk R9.pr R9.tl, lst_dk R9.se R9.tl, dps_ts ts10 R9.dl (noLs_seen _), lst_dk R9.mo R9.tl, dps_ts ts10 R9.dw (noLs_sts _), ?_, R9.pm⟩⟩
  · rw [upd_same]
    rfl
  · rw [upd_ne tnw]
    exact R9.now
end
end RM

set_option Elab.async false
set_option linter.all false
set_option maxRecDepth 100000
set_option maxHeartbeats 4000000
set_option pp.maxSteps 600
set_option pp.deepTerms false
namespace RM
open PySem PySem.Spec PyProof.Rows L2
theorem DrawS.less {K : PySem.W.Frag} {H : Hp} {d sc p : Addr} {S : List Addr} (h : DrawS K H d sc (p :: S)) : DrawS K H d sc S := ⟨h.hd, h.sc.keep fun b u hb => by
  unfold dlS at hb ⊢
  by_cases z : b ∈ p :: S
  · rw [if_pos z] at hb; cases hb
  · rw [if_neg z] at hb
    rw [if_neg fun q => z (List.mem_cons_of_mem _ q)]
    exact hb, fun q hq => h.ne q (List.mem_cons_of_mem _ hq)⟩
section
variable {P : Program} {w : World} {K : PySem.W.Frag} {mg : Str → Option Value} {base : Heap}
def spSched (K : PySem.W.Frag) : Sp := fun vs H Q _ => match vs with
  | [x, c, m, k] => ∃ d sc r vm l gs, ∃ waits most : Nat, x = .ref d ∧ c = .ref r ∧ m = .int waits ∧ k = .int most ∧ waits ≤ 10 ∧ most ≤ 10 ∧ DrawAt K H d sc ∧ CaseAt K (del H d) r vm l gs ∧
    ∀ p its (plan : List (List Int)) H', But d H H' → DrawAt K H' d sc → H p = none → H' p = some (.lst (its.map V.ref)) → Paired (fun a (ns : List Int) => H a = none ∧ a ≠ p ∧ H' a = some (.lst (ns.map V.int))) its plan → plan.length = waits → (∀ it ∈ plan, it.length ≤ most ∧ ∀ n ∈ it, 0 ≤ n ∧ n < gs.length) → Q (.ref p) H'
  | _ => False
theorem sc_law_schedule : FnScope ["_law_draws", "_law_case_here", "_law_waits", "_law_most", "_law_schedule_here", "_law_k", "_law_item", "_law_j"] ["_law_draws", "_law_case_here", "_law_waits", "_law_most"] (defScope s_law_schedule) := ⟨rfl, rfl, rfl, by decide +kernel, rfl, by decide +kernel, by decide +kernel⟩
theorem c_law_schedule (T : Top w K mg) : Cal P w K mg base CX0 2 "_law_schedule" (spSched K) := by
  refine cal_0 (f_law_schedule T) (g_law_schedule T) sc_law_schedule (fun _ _ _ _ _ _ us hl => match us, hl with | [_, _, _, _], _ => rfl) (fun vs H Q E h => match vs, h with | [_, _, _, _], _ => rfl) (fun cdv A outer s H vs Q E hr h => ?_)
  match vs, h with
  | [x, c, m, k], h =>
  obtain ⟨d, sc, r, vm, l, gs, waits, most, rfl, rfl, rfl, rfl, hw, hm, d0, ca, q⟩ := h
  refine ⟨_, (pss_cons (ps_set (i := 4) sc_law_schedule.nd rfl (Or.inl rfl) (pe_lst pa_nil))
    (pss_cons (ps_for PassesOwn.never rfl (pi_range1 rfl (z_range T) (pa_cons (pv 2) pa_nil)) (pg_name (i := 5) sc_law_schedule.nd rfl (Or.inl rfl))
      (pss_cons (ps_set (i := 6) sc_law_schedule.nd rfl (Or.inl rfl) (pe_lst pa_nil))
    (pss_cons (ps_mid (ps_if (pt_cmpR op_gt (pcb (z_len T) call_len_seq boot_len (pa_cons (pe_ix ix_list (pv 1) pe_int (fun _ _ => rfl)) pa_nil)) pe_int (nomark _))
      (pss_one (ps_setLc (i := 6) (own := [("_law_j", 7)]) rfl sc_law_schedule.nd rfl rfl (sw_true rfl rfl rfl (by decide +kernel)) (pi_range1 rfl (z_range T) (pa_cons (pc (c_law_draw T) hr (pa_cons (pv 0) (pa_cons (pe_op op_add (pv 3) pe_int) pa_nil))) pa_nil)) (blkOk_by (own := [("_law_j", 7)]) (N := ["_law_draws", "_law_case_here", "_law_waits", "_law_most", "_law_schedule_here", "_law_k", "_law_item", "_law_j"]) (sc := defScope s_law_schedule) (by decide +kernel)) (fun _ _ _ _ _ => (pg_name (i := 7) sc_law_schedule.nd rfl (Or.inl rfl) (Or.inr rfl))) (fun _ _ _ _ _ => pts_nil) (fun _ _ _ _ _ => (pc (c_law_draw T) hr (pa_cons (pv 0) (pa_cons (pcb (z_len T) (call_len_seq' (K := K) rfl) boot_len (pa_cons (pe_ix (ix_list' (K := K) rfl) (pv 1) pe_int (fun _ _ => rfl)) pa_nil)) pa_nil))))))
      pss_nil))
    (pss_one (ps_expr (pe_bm PySem.F.plainAttrs_list PySem.F.slot_list_append PySem.F.type_list_append mt_append (pv 4) (pa_cons (pv 6) pa_nil)))))))
    (pss_one (ps_ret (pv 4))))), ?_⟩
  refine ⟨(by show 0 ≤ sizeLine; decide), fun p hp => ?_⟩
  refine ⟨_, rfl, (waits : Int), rfl, by omega, by omega, ?_⟩
  have nd0 : p ≠ d := fun z => d0.1.ne (by rw [← z]; exact hp)
  have D0 := d0.none.new hp (.lst [])
  refine for_it (walk_range (lo := 0) (n := waits)) (fun i σ H' => DrawS K H' d sc [p] ∧ But d H H' ∧ ∃ its, ∃ plan : List (List Int), ∃ v5 v6 v7, H' p = some (.lst (its.map V.ref)) ∧ Paired (fun a (ns : List Int) => H a = none ∧ a ≠ p ∧ H' a = some (.lst (ns.map V.int))) its plan ∧ plan.length = i ∧
      (∀ it ∈ plan, it.length ≤ most ∧ ∀ n ∈ it, 0 ≤ n ∧ n < gs.length) ∧ σ = [some (.ref d), some (.ref r), some (.int waits), some (.int most), some (.ref p), v5, v6, v7])
    ⟨D0, but_sm (smNew1 hp _), [], [], _, _, _, upd_same, .nil, rfl, fun it hit => by simp at hit, rfl⟩ (fun _ _ _ _ _ => trivial) ?_ ?_
  · rintro i x σ H1 H2 hi ⟨D1, b1, its, plan, v5, v6, v7, hp1, pp1, lp1, ok1, rfl⟩ ⟨rfl, rfl⟩
    refine ⟨(by show 0 ≤ sizeLine; decide), fun q0 hq0 => ?_⟩
    have s2 := smNew1 hq0 (.lst [])
    have D2 := D1.keep s2
    have b2 : But d H (upd H2 q0 (.lst [])) := b1.trans (but_sm s2)
    have q0n : H q0 = none := gro_but b1 D1.hd.ne q0 hq0
    have q0p : q0 ≠ p := fun z => by rw [z, hp1] at hq0; cases hq0
    have pp2 : Paired (fun a (ns : List Int) => H a = none ∧ a ≠ p ∧ (upd H2 q0 (.lst [])) a = some (.lst (ns.map V.int))) its plan := paired_mono pp1 fun _ _ z => ⟨z.1, z.2.1, s2 _ _ z.2.2⟩
    refine ⟨fun σ' H' => ∃ a, ∃ ns : List Int, ∃ v7, H a = none ∧ a ≠ p ∧ H' a = some (.lst (ns.map V.int)) ∧ ns.length ≤ most ∧ (∀ n ∈ ns, 0 ≤ n ∧ n < gs.length) ∧ DrawS K H' d sc [p] ∧ But d H H' ∧ H' p = some (.lst (its.map V.ref)) ∧ Paired (fun a (ns : List Int) => H a = none ∧ a ≠ p ∧ H' a = some (.lst (ns.map V.int))) its plan ∧
      σ' = [some (.ref d), some (.ref r), some (.int waits), some (.int most), some (.ref p), some (.int (0 + (i : Int))), some (.ref a), v7], ?_, ?_⟩
    · obtain ⟨va, bl, cl, ys, cv, h1, h2, h3, h4, h5, h6⟩ := (ca.keep b2).at_
      have lcv : cv.length = gs.length := h6.length
      have h1' := del_sm _ _ _ _ h1
      have h5' := del_sm _ _ _ _ h5
      refine ⟨_, rfl, r, _, _, .ref cl, rfl, rfl, SqL.of h1', at2, cl, _, rfl, .inl (SqL.of h5'), _, _, rfl, rfl, _, rfl, ifB (fun hc => ?_) (fun hc => ?_)⟩
      · have n1 : 1 ≤ gs.length := by have := of_decide_eq_true hc; rw [List.length_map, lcv] at this; omega
        have lg3 := ca.lg
        refine ⟨_, rfl, _, rfl, _, _, rfl, rfl, d, sc, _, rfl, rfl, D2.one, by omega, by omega, fun j H3 j0 j1 b3 d3 => ?_⟩
        obtain ⟨j, rfl, hj⟩ := drawn_of j0 j1
        have D3 := D2.but b3 d3
        have b03 := b2.trans b3
        have q0d : q0 ≠ d := fun z => D1.hd.ne (by rw [← z]; exact hq0)
        refine ⟨_, rfl, by omega, by omega, fun D nD => ?_⟩
        have Dp0 : p ≠ D := ne_of_none (b3.get nd0 (s2 _ _ hp1)) nD
        have nD0 : H D = none := gro_but b03 D3.hd.ne D nD
        have Dd : D ≠ d := fun z => D3.hd.ne (by rw [← z]; exact nD)
        have pp3 : Paired (fun a (ns : List Int) => H a = none ∧ a ≠ p ∧ a ≠ d ∧ a ≠ D ∧ H3 a = some (.lst (ns.map V.int))) its plan := paired_mono pp2 fun a _ z => by
          have ad : a ≠ d := fun q => d0.1.ne (by rw [← q]; exact z.1)
          have h3a := b3.get ad z.2.2
          exact ⟨z.1, z.2.1, ad, ne_of_none h3a nD, h3a⟩
        refine lc_it (walk_range (lo := 0) (n := j)) (fun i2 H' => DrawS K H' d sc [D, p] ∧ But d H H' ∧ H' p = some (.lst (its.map V.ref)) ∧ Paired (fun a (ns : List Int) => H a = none ∧ a ≠ p ∧ a ≠ d ∧ a ≠ D ∧ H' a = some (.lst (ns.map V.int))) its plan ∧ ∃ ns : List Int, H' D = some (.lst (ns.map V.int)) ∧ ns.length = i2 ∧ ∀ n ∈ ns, 0 ≤ n ∧ n < gs.length)
          ⟨D3.new nD _, but_new b03 nD0, by rw [upd_ne Dp0]; exact b3.get nd0 (s2 _ _ hp1), paired_mono pp3 fun _ _ z => ⟨z.1, z.2.1, z.2.2.1, z.2.2.2.1, by rw [upd_ne z.2.2.2.1]; exact z.2.2.2.2⟩, [], upd_same, rfl, fun n hn => by simp at hn⟩ (fun _ _ _ _ => trivial) ?_ ?_
        · rintro i2 x2 H4 H5 hi2 ⟨D4, b4, hp4, pp4, ns, hD4, lns, okn⟩ ⟨rfl, rfl⟩
          refine ⟨rfl, yesI ?_⟩
          obtain ⟨va', bl', cl', ys', cv', g1, g2, g3, g4, g5, g6⟩ := (ca.keep b4).at_
          have lcv' : cv'.length = gs.length := g6.length
          have g1' := del_sm _ _ _ _ g1
          have g5' := del_sm _ _ _ _ g5
          refine ⟨_, rfl, _, rfl, r, _, _, .ref cl', rfl, rfl, SqL.of g1', at2, cl', _, rfl, .inl (SqL.of g5'), d, sc, _, rfl, rfl, D4.one, by rw [List.length_map, lcv']; omega, by rw [List.length_map, lcv']; omega, fun v H6 v0 v1 b6 d6 => ?_⟩
          rw [List.length_map, lcv'] at v1
          refine ⟨_, b6.get Dd hD4, small1000 (by rw [List.length_map]; omega), (D4.but b6 d6).upd _ (by simp), but_new (b4.trans b6) nD0, by rw [upd_ne Dp0]; exact b6.get nd0 hp4, paired_mono pp4 fun _ _ z => ⟨z.1, z.2.1, z.2.2.1, z.2.2.2.1, by rw [upd_ne z.2.2.2.1]; exact b6.get z.2.2.1 z.2.2.2.2⟩, ns ++ [v], by rw [upd_same, List.map_append]; rfl, by rw [List.length_append, lns]; rfl, fun n hn => ?_⟩
          rcases List.mem_append.mp hn with z | z
          · exact okn n z
          · rw [List.mem_singleton.mp z]
            exact ⟨v0, v1⟩
        · rintro H4 ⟨D4, b4, hp4, pp4, ns, hD4, lns, okn⟩
          exact ⟨D, ns, _, nD0, Ne.symm Dp0, hD4, by omega, okn, D4.less, b4, hp4, paired_mono pp4 fun _ _ z => ⟨z.1, z.2.1, z.2.2.2.2⟩, rfl⟩
      · exact ⟨q0, [], _, q0n, q0p, upd_same, Nat.zero_le _, fun n hn => by simp at hn, D2, b2, s2 _ _ hp1, pp2, rfl⟩
    · rintro σ H3 ⟨a, ns, v7, an, ap, ha, ln, okn, D3, b3, hp3, pp3, rfl⟩
      refine ⟨_, rfl, .inl ⟨rfl, _, SqL.of hp3⟩, _, rfl, p, _, .ref a, rfl, rfl, hp3, small1000 (by rw [List.length_map, pp3.length]; omega), ?_⟩
      refine ⟨D3.upd _ (by simp), but_new b3 hp, its ++ [a], plan ++ [ns], _, _, _, by rw [upd_same, List.map_append]; rfl, ?_, by rw [List.length_append, lp1]; rfl, fun it hit => ?_, rfl⟩
      · refine Paired.snoc (paired_mono pp3 fun _ _ z => ⟨z.1, z.2.1, ?_⟩) ⟨an, ap, ?_⟩
        · rw [upd_ne z.2.1]
          exact z.2.2
        · rw [upd_ne ap]
          exact ha
      · rcases List.mem_append.mp hit with z | z
        · exact ok1 it z
        · rw [List.mem_singleton.mp z]
          exact ⟨ln, okn⟩
  · rintro σ H1 ⟨D1, b1, its, plan, v5, v6, v7, hp1, pp1, lp1, ok1, rfl⟩
    exact ⟨_, rfl, q p its plan H1 b1 D1.one hp hp1 pp1 lp1 ok1⟩
end
end RM

set_option Elab.async false
set_option linter.all false
set_option maxRecDepth 100000
set_option maxHeartbeats 8000000
set_option pp.maxSteps 600
set_option pp.deepTerms false
namespace RM
open PySem PySem.Spec PyProof.Rows L2
theorem nodup_sub_len {l m : List Str} (n : l.Nodup) (h : ∀ k ∈ l, k ∈ m) : l.length ≤ m.length := by
  rcases Nat.lt_or_ge m.length l.length with z | z
  · have := (perm_of_sub n h (by omega)).length_eq
    omega
  · exact z
mutual
theorem thin_encS : ∀ s : Stm, cS s ≤ 1000 → thin (encS false s) = true
  | .ite v n a b, h => by
    rw [cS] at h
    show (decide (5 ≤ 1000000) && (true && (true && (true && (thin (.tuple (encB false a)) && (thin (.tuple (encB false b)) && true)))))) = true
    rw [thin_encB a (by omega), thin_encB b (by omega)]
    rfl
  | .same v u a b, h => by
    rw [cS] at h
    show (decide (5 ≤ 1000000) && (true && (true && (true && (thin (.tuple (encB false a)) && (thin (.tuple (encB false b)) && true)))))) = true
    rw [thin_encB a (by omega), thin_encB b (by omega)]
    rfl
  | .rep n a, h => by
    rw [cS] at h
    show (decide (3 ≤ 1000000) && (true && (true && (thin (.tuple (encB false a)) && true)))) = true
    rw [thin_encB a (by omega)]
    rfl
  | .read v k, _ => rfl
  | .set v n, _ => rfl
  | .copy v u, _ => rfl
  | .print v, _ => rfl
  | .say n, _ => rfl
  | .wait, _ => rfl
  | .stop, _ => rfl
theorem thin_encB : ∀ l : List Stm, cB l ≤ 1000 → thin (.tuple (encB false l)) = true
  | [], _ => rfl
  | s :: r, h => by
    rw [cB] at h
    have h1 := thin_encS s (by omega)
    have h2 := thin_encB r (by omega)
    have e : thin (.tuple (encB false r)) = (decide ((encB false r).length ≤ 1000000) && thins (encB false r)) := rfl
    rw [e, Bool.and_eq_true] at h2
    have ll := cB_len r
    have lr : (encB false r).length = r.length := by rw [encB_map, List.length_map]
    show (decide ((encB false r).length + 1 ≤ 1000000) && (thin (encS false s) && thins (encB false r))) = true
    rw [h1, h2.2, decide_eq_true (by omega)]
    rfl
end
theorem dep_encT (l : List Stm) : (PyData.tuple (encB false l)).depth ≤ 2 * dB l := by
  have := dep_encB false l
  show PyData.depthAll (encB false l) + 1 ≤ _
  omega
section
variable {P : Program} {w : World} {K : PySem.W.Frag} {mg : Str → Option Value} {base : Heap}
def spLPinned (K : PySem.W.Frag) : Sp := fun vs H Q _ => match vs with
  | [c, kp, o] => ∃ r vm l gs ka, ∃ ks : List Str, c = .ref r ∧ kp = .ref ka ∧ o = .non ∧ CaseAt K H r vm l gs ∧ vB l = true ∧ SqL K H ka (ks.map V.str) ∧ ks.Nodup ∧ (∀ k ∈ ks, isWord k = true) ∧ ks.length ≤ 10 ∧
    ∀ v H', Same H H' → Dp K H' v (.tuple (encB false (pinL (nmOf l ks) l))) → Q v H'
  | _ => False
theorem sc_law_pinned : FnScope ["_law_case_here", "_law_keys", "_law_only", "_law_free_here", "_law_names", "_law_k", "_law_first", "_law_key"] ["_law_case_here", "_law_keys", "_law_only"] (defScope s_law_pinned) := ⟨rfl, rfl, rfl, by decide +kernel, rfl, by decide +kernel, by decide +kernel⟩
theorem c_law_pinned (T : Top w K mg) : Cal P w K mg base CX0 7 "_law_pinned" (spLPinned K) := by
  refine cal_0 (f_law_pinned T) (g_law_pinned T) sc_law_pinned (fun _ _ _ _ _ _ us hl => match us, hl with | [_, _, _], _ => rfl) (fun vs H Q E h => match vs, h with | [_, _, _], _ => rfl) (fun cdv A outer s H vs Q E hr h => ?_)
  match vs, h with
  | [c, kp, o], h =>
  obtain ⟨r, vm, l, gs, ka, ks, rfl, rfl, rfl, ca, vl, hka, nd, wk, lk, q⟩ := h
  obtain ⟨nm1, nm2, nm3, nm4⟩ := nmOf_ok vl wk (by omega) nd
  have fl := free_len vl
  have dl := ca.dl
  have lcl := ca.cl
  refine ⟨_, (pss_cons (ps_set (i := 3) sc_law_pinned.nd rfl (Or.inl rfl) (pc (c_law_free T) hr (pa_cons (pv 0) (pa_cons (pcb (z_len T) call_len_seq boot_len (pa_cons (pv 1) pa_nil)) pa_nil))))
    (pss_cons (ps_set (i := 4) sc_law_pinned.nd rfl (Or.inr rfl) pe_dnewK)
    (pss_cons (ps_for PassesOwn.never rfl (pi_range1 rfl (z_range T) (pa_cons (pcb (z_len T) call_len_seq boot_len (pa_cons (pv 1) pa_nil)) pa_nil)) (pg_name (i := 5) sc_law_pinned.nd rfl (Or.inl rfl))
      (pss_one (ps_dput (hu_of hr) (pv 4) (pe_ix ix_list (pv 1) (pv 5) (fun _ _ => rfl)) (pe_ix ix_list (pv 3) (pv 5) (fun _ _ => rfl)) rfl)))
    (pss_cons (ps_set (i := 6) sc_law_pinned.nd rfl (Or.inl rfl) (pct (z_tuple T) call_tuple_of boot_tuple (pa_cons (pe_lc (own := [("_law_key", 7)]) rfl sc_law_pinned.nd (pi_list (pv 1)) (blkOk_by (own := [("_law_key", 7)]) (N := ["_law_case_here", "_law_keys", "_law_only", "_law_free_here", "_law_names", "_law_k", "_law_first", "_law_key"]) (sc := defScope s_law_pinned) (by decide +kernel)) (fun _ _ _ _ _ => (pg_name (i := 7) sc_law_pinned.nd rfl (Or.inl rfl) (Or.inr rfl))) (fun _ _ _ _ _ => pts_nil) (fun _ _ _ _ _ => (pe_tup (pa_cons pe_str (pa_cons (pe_dget (hu_of hr) (pv 4) (pv 7) (fun _ _ => rfl)) (pa_cons (pv 7) pa_nil)))))) pa_nil)))
    (pss_one (ps_ret (pe_op op_catG (pv 6) (pc (c_law_put T 4) hr (pa_cons (pe_ix ix_list (pv 0) pe_int (fun _ _ => rfl)) (pa_cons (pe_tup pa_nil) (pa_cons (pv 4) (pa_cons (pv 2) pa_nil)))))))))))), ?_⟩
  refine ⟨_, rfl, _, rfl, ka, _, rfl, .inl hka, r, vm, l, gs, ks.length, rfl, by rw [List.length_map], ca, vl, by omega, fun fp H1 e1 nfp hfp => ?_⟩
  refine fun d hd => ?_
  have df : fp ≠ d := ne_of_none hfp hd
  have e2 := e1.trans (smNew1 hd (.dK []))
  refine ⟨_, rfl, ka, _, rfl, .inl (e2.seq hka), _, rfl, by rw [List.length_map]; omega, by rw [List.length_map]; omega, ?_⟩
  rw [List.length_map, show ((ks.length : Nat) : Int).toNat = ks.length from rfl]
  have sK : ∀ X, Same H (upd H1 d X) := fun X => e1.trans (smNew1 hd X)
  refine for_it (walk_range (lo := 0) (n := ks.length)) (fun i σ H' => H' = upd H1 d (.dK (nK ((nmOf l ks).take i))) ∧ ∃ v5, σ = [some (.ref r), some (.ref ka), some .non, some (.ref fp), some (.ref d), v5, none, none])
    ⟨by rw [List.take_zero]; rfl, _, rfl⟩ (fun _ _ _ _ _ => trivial) ?_ ?_
  · rintro i x σ H2 H2' hi ⟨rfl, v5, rfl⟩ ⟨rfl, rfl⟩
    obtain ⟨k, hk⟩ : ∃ k, ks[i]? = some k := ⟨_, List.getElem?_eq_getElem hi⟩
    obtain ⟨z, hz⟩ : ∃ z, (freeL l)[i]? = some z := ⟨_, List.getElem?_eq_getElem (by omega)⟩
    have hkz : (nmOf l ks)[i]? = some (k, z) := by unfold nmOf; rw [List.getElem?_zip_eq_some]; exact ⟨hk, hz⟩
    refine ⟨_, rfl, _, rfl, fp, _, _, .str z, rfl, rfl, SqL.of (by rw [upd_ne df]; exact hfp), atI_nat0 (by rw [List.getElem?_map, List.getElem?_take_of_lt hi, hz]; rfl), ?_⟩
    refine ⟨_, rfl, _, rfl, _, rfl, ka, _, _, .str k, rfl, rfl, (sK _).seq hka, atI_nat0 (by rw [List.getElem?_map, hk]; rfl), d, _, rfl, .inl ⟨nK ((nmOf l ks).take i), .inr k, upd_same, rfl, small1000 ?_, rfl⟩, ?_⟩
    · unfold nK
      rw [List.length_map, List.length_take]
      omega
    · refine ⟨?_, _, rfl⟩
      have hnew : k ∉ ((nmOf l ks).take i).map (·.1) := fun hin => by
        rw [List.map_take] at hin
        obtain ⟨j, hj, ej⟩ := List.mem_iff_getElem.mp hin
        rw [List.getElem_take] at ej
        rw [List.length_take] at hj
        have e0 : ((nmOf l ks).map (·.1))[i]? = some k := by rw [List.getElem?_map, hkz]; rfl
        obtain ⟨hi', ez⟩ := List.getElem?_eq_some_iff.mp e0
        have := (List.getElem_inj (h₀ := by omega) (h₁ := hi') nm3).mp (ej.trans ez.symm)
        omega
      rw [putNK hnew, upd_upd, take_more hkz]
  rintro σ H2 ⟨rfl, v5, rfl⟩
  rw [show (nmOf l ks).take ks.length = nmOf l ks by rw [← nm2, List.take_length]]
  have e3 := sK (.dK (nK (nmOf l ks)))
  have hd3 : (upd H1 d (.dK (nK (nmOf l ks)))) d = some (.dK (nK (nmOf l ks))) := upd_same
  obtain ⟨H3, eH3⟩ : ∃ H3, H3 = upd H1 d (.dK (nK (nmOf l ks))) := ⟨_, rfl⟩
  rw [← eH3] at e3 hd3 ⊢
  clear eH3 sK e2
  -- first
  refine ⟨_, rfl, ka, rfl, ⟨_, e3.seq hka⟩, fun D nD => ?_⟩
  refine lc_opt (walk_list (xs := ks.map V.str)) (fun (q : Str × Str) y H => Dp K H y (encS false (.read q.2 q.1))) (fun i => (nmOf l ks)[i]?) nD (small1000 (by rw [List.length_map]; omega)) (fun H' e => (e3.trans e).seq hka) (fun _ _ _ _ h e => Dp.keep e h) (fun _ _ _ _ _ h e => dp_ts (ts_upd _ e trivial) h (noL_encS _)) ?_ ?_
  · rintro i x H4 H5 N hi e ⟨rfl, hx⟩ hk _
    rw [List.getElem?_map] at hx
    obtain ⟨k, hk1, rfl⟩ := Option.map_eq_some_iff.mp hx
    have il := (List.getElem?_eq_some_iff.mp hk1).1
    obtain ⟨z, hz⟩ : ∃ z, (freeL l)[i]? = some z := ⟨_, List.getElem?_eq_getElem (by omega)⟩
    refine ⟨rfl, yesI ?_⟩
    refine ⟨_, rfl, _, rfl, d, .str z, rfl, .inl ⟨nK (nmOf l ks), .inr k, .of (e _ _ hd3), rfl, by rw [valV_nK]; unfold nmOf; rw [nmGet_zip nd hk1 hz]; rfl⟩, _, rfl, (by show 3 ≤ sizeLine; decide), fun t ht => ?_⟩
    exact hk _ _ (k, z) (by unfold nmOf; rw [List.getElem?_zip_eq_some]; exact ⟨hk1, hz⟩) (smNew1 ht _) (.tup (SqT.of upd_same) (.cons (.str _) (.cons (.str _) (.cons (.str _) .nil))))
  intro H4 ys e4 hD hp'
  rw [List.length_map, ← nm2, some_range] at hp'
  have hys : DpAll K H4 ys (encB false (readsNm (nmOf l ks))) := by
    rw [encB_map]
    unfold readsNm
    rw [List.map_map]
    exact paired_map hp'
  have lys : ys.length = ks.length := by rw [DpAll.len hys, encB_map, List.length_map]; unfold readsNm; rw [List.length_map, nm2]
  refine ⟨D, _, rfl, .inl ⟨SqL.of hD, fun f hf => ?_⟩⟩
  have s5 := smNew1 hf (.tup ys)
  have e5 := (e3.trans e4).trans s5
  have hf5 : SqT K (upd H4 f (.tup ys)) f ys := SqT.of upd_same
  have hd5 := s5 _ _ (e4 _ _ hd3)
  have hys5 := DpAll.keep s5 hys
  obtain ⟨H5, eH5⟩ : ∃ H5, H5 = upd H4 f (.tup ys) := ⟨_, rfl⟩
  rw [← eH5] at e5 hf5 hd5 hys5 ⊢
  clear eH5 s5
  obtain ⟨va, bl, cl, yb, cv, h1, h2, h3, h4, h5, h6⟩ := ca.at_
  refine ⟨_, rfl, _, rfl, r, _, _, .ref bl, rfl, rfl, SqL.of (e5 _ _ h1), at1, (by show 0 ≤ sizeLine; decide), fun p0 hp0 => ?_⟩
  have s6 := smNew1 hp0 (.tup [])
  have e6 := e5.trans s6
  refine ⟨_, rfl, _, rfl, l, [], d, nmOf l ks, .lst (SqL.of (e6 _ _ h3)) (DpAll.keep e6 h4), path0 (SqT.of upd_same), rfl, s6 _ _ hd5, rfl, by omega, by omega, by show 0 + 2 * 4 ≤ 900; omega, fun v2 H6 e7 hv2 => ?_⟩
  obtain ⟨b2, xs2, rfl, hb2, hxs2⟩ := Dp.tup_inv hv2
  have lx2 : xs2.length ≤ 60 := by
    have h1 := cB_len (pinB (nmOf l ks) l)
    rw [cB_pin] at h1
    rw [DpAll.len hxs2, encB_map, List.length_map]
    omega
  refine catA_of (smT (s6.trans e7) hf5) hb2 (Nat.le_of_lt (small1000 (by omega))) fun t H7 e8 ht => ?_
  refine q _ H7 ((e6.trans e7).trans e8) (.tup ht ?_)
  unfold pinL
  rw [encB_app]
  exact DpAll.app (DpAll.keep ((s6.trans e7).trans e8) hys5) (DpAll.keep e8 hxs2)
def spLaw (K : PySem.W.Frag) : Sp := fun vs H Q _ => match vs with
  | [x] => ∃ (a : Addr) (xs : List Int), x = .ref a ∧ SqL K H a (xs.map V.int) ∧ ∀ H', Q (.bl true) H'
  | _ => False
theorem sc_law : FnScope ["_law_script", "_law_draws", "_law_case_here", "_law_program", "_law_place", "_law_changes_here", "_law_menu", "_law_keys", "_law_due", "_law_told", "_law_k", "_law_key"] ["_law_script"] (defScope s_law) := ⟨rfl, rfl, rfl, by decide +kernel, rfl, by decide +kernel, by decide +kernel⟩
theorem b_law (T : Top w K mg) : Body0 P w K mg base ["_law_script", "_law_draws", "_law_case_here", "_law_program", "_law_place", "_law_changes_here", "_law_menu", "_law_keys", "_law_due", "_law_told", "_law_k", "_law_key"] "law" s_law (He.ga K "law") 22 (spLaw K) := by
  intro cdv A outer s H0 vs Q E hr h
  match vs, h with
  | [x], h =>
  obtain ⟨a, xs, rfl, ha, q⟩ := h
  refine ⟨_, (pss_cons (ps_set (i := 1) sc_law.nd rfl (Or.inr rfl) (pc (c_law_begin T) hr (pa_cons (pv 0) pa_nil)))
    (pss_cons (ps_set (i := 2) sc_law.nd rfl (Or.inl rfl) (pc (c_law_caseN T) hr (pa_cons (pv 1) pa_nil)))
    (pss_cons (ps_asg (pc (c_law_made T) hr (pa_cons (pv 2) pa_nil)) (pg_lst rfl (pgs_cons (pg_name (i := 3) sc_law.nd rfl (Or.inl rfl)) (pgs_cons (pg_name (i := 4) sc_law.nd rfl (Or.inl rfl)) (pgs_cons (pg_name (i := 5) sc_law.nd rfl (Or.inl rfl)) pgs_nil)))))
    (pss_cons (ps_set (i := 6) sc_law.nd rfl (Or.inr rfl) (pe_op op_cat (pcb (z_sorted T) (call_sortedD rfl) boot_sorted (pa_cons (pe_ix ix_list (pv 2) pe_int (fun _ _ => rfl)) pa_nil)) (pe_lst (pa_cons pe_str (pa_cons pe_str pa_nil)))))
    (pss_cons (ps_set (i := 7) sc_law.nd rfl (Or.inr rfl) (pe_lc (own := [("_law_k", 10)]) rfl sc_law.nd (pi_range1 rfl (z_range T) (pa_cons (pc (c_law_draw T) hr (pa_cons (pv 1) (pa_cons pe_int pa_nil))) pa_nil)) (blkOk_by (own := [("_law_k", 10)]) (N := ["_law_script", "_law_draws", "_law_case_here", "_law_program", "_law_place", "_law_changes_here", "_law_menu", "_law_keys", "_law_due", "_law_told", "_law_k", "_law_key"]) (sc := defScope s_law) (by decide +kernel)) (fun _ _ _ _ _ => (pg_name (i := 10) sc_law.nd rfl (Or.inl rfl) (Or.inr rfl))) (fun _ _ _ _ _ => pts_nil) (fun _ _ _ _ _ => (pe_ix (ix_list' (K := K) rfl) (pv 6) (pc (c_law_draw T) hr (pa_cons (pv 1) (pa_cons (pcb (z_len T) (call_len_seq' (K := K) rfl) boot_len (pa_cons (pv 6) pa_nil)) pa_nil))) (fun _ _ => rfl)))))
    (pss_cons (ps_set (i := 8) sc_law.nd rfl (Or.inl rfl) (pc (c_law_pinned T) hr (pa_cons (pv 2) (pa_cons (pe_lc (own := [("_law_key", 11)]) rfl sc_law.nd (pi_seqA (pmt0 (c_Program_keys_of T) hr (pv 3))) (blkOk_by (own := [("_law_key", 11)]) (N := ["_law_script", "_law_draws", "_law_case_here", "_law_program", "_law_place", "_law_changes_here", "_law_menu", "_law_keys", "_law_due", "_law_told", "_law_k", "_law_key"]) (sc := defScope s_law) (by decide +kernel)) (fun _ _ _ _ _ => (pg_name (i := 11) sc_law.nd rfl (Or.inl rfl) (Or.inr rfl))) (fun _ _ _ _ _ => (pts_one (pt_cmpR (op_in_seq' (K := K) rfl) (pv 11) (pv 7) rfl))) (fun _ _ _ _ _ => (pv 11))) (pa_cons pe_non pa_nil)))))
    (pss_cons (ps_set (i := 9) sc_law.nd rfl (Or.inl rfl) (pc (c_pinned T) hr (pa_cons (pv 3) (pa_cons (pv 7) pa_nil))))
    (pss_cons (ps_if (PW.pt (pw_or (pt_not (pt_val (pc (c_law_like T 20) hr (pa_cons (pe_fld (pv 9) rfl) (pa_cons (pv 8) pa_nil))))) (pw_or1 (pt_not (pt_cmpR (op_ownEq (c_Program_eq T) hr) (pv 3) (pmk (c_Program_init T) hr (pa_cons (pe_ix ix_list (pv 2) pe_int (fun _ _ => rfl)) pa_nil)) (nomark _))))))
      (pss_one (ps_ret pe_bl))
      pss_nil)
    (pss_one (ps_ret (pe_cmpR (op_eqD (room64 hr)) (pc (c_frozen T) hr (pa_cons (pv 9) (pa_cons (pv 4) pa_nil))) (pc (c_frozen T) hr (pa_cons (pv 3) (pa_cons (pv 4) pa_nil))) (nomark _)))))))))))), ?_⟩
  refine ⟨_, rfl, a, xs, rfl, ha, fun d sc H1 s1 nd da => ?_⟩
  refine ⟨_, rfl, d, sc, rfl, da, fun r vm l gs H2 b2 d2 nr ca apart => ?_⟩
  have vl : vB l = true := by
    obtain ⟨va, bl, cl, ys, cv, h1, h2, h3, _⟩ := ca.at_
    exact (apart va bl cl ys (nw_some h1).2 (nw_some h3).2).2.2.2.1
  refine ⟨_, rfl, r, vm, l, gs, rfl, ca.keep (nw_sm _ _), fun m pr su chl cas vm' gs' H3 e3 nm hm pa sS pvm nchl hchl pch pgs => ?_⟩
  have d3 := d2.keep e3
  refine ⟨m, _, rfl, SqL.of hm, rfl, _, _, rfl, _, _, rfl, _, _, rfl, rfl, ?_⟩
  have caD : CaseAt K (del H3 d) r vm l gs := ca.keep (fun b u hb => by
    obtain ⟨n1, n2⟩ := nw_some hb
    have bd : b ≠ d := fun z => da.1.ne (by rw [← z]; exact n1)
    rw [del_ne bd]
    exact e3 _ _ n2)
  have ca3 := caD.keep (del_sm _ _)
  clear e3 d2 ca hm nm apart pch hchl nchl pgs
  have okv := ca3.ov.1
  have lv3 := ca3.ov.2.2
  have okv' : okM vm' := okM_perm okv pvm
  have lv' : (wKeys vm').length = vm.length := by rw [show (wKeys vm').length = vm'.length from List.length_map .., pvm.length_eq]
  have ksub : ∀ k, k ∈ wKeys vm → k ∈ wKeys vm' := fun k hk => (pvm.map (·.1)).mem_iff.mpr hk
  have wl := ca3.wl
  have dl := ca3.dl
  have cl := ca3.cl
  have kl' : kB (wKeys vm') l = true := kB_mono ksub l ca3.kl
  obtain ⟨va, bl, cla, ys, cv, h1, h2, h3, h4, h5, h6⟩ := ca3.at_
  -- the menu
  refine ⟨_, rfl, r, _, _, .ref va, rfl, rfl, SqL.of h1, at0, va, mK vm, wKeys vm, rfl, .of h2, by unfold mK wKeys; rw [List.map_map, List.map_map]; rfl, by rw [show (wKeys vm).length = vm.length from List.length_map ..]; omega, fun zs nmp hperm hsort hnmp => ?_⟩
  have lzs : zs.length ≤ 3 := by rw [hperm.length_eq, show (wKeys vm).length = vm.length from List.length_map ..]; exact lv3
  have e4 := smNew1 hnmp (.lst (zs.map V.str))
  refine ⟨(by show 2 ≤ sizeLine; decide), fun p5 hp5 => ?_⟩
  have e5 := smNew1 hp5 (.lst [.str "zz", .str "lost"])
  refine ⟨nmp, p5, _, _, rfl, rfl, e5 _ _ upd_same, upd_same, by rw [List.length_map]; exact Nat.le_of_lt (small1000 (by show zs.length + 2 ≤ 1000; omega)), fun mp hmp => ?_⟩
  have emenu : zs.map V.str ++ [.str "zz", .str "lost"] = (zs ++ (["zz", "lost"] : List Str)).map V.str := by rw [List.map_append]; rfl
  rw [emenu]
  have e36 := (e4.trans e5).trans (smNew1 hmp (.lst ((zs ++ (["zz", "lost"] : List Str)).map V.str)))
  have hmp6 : (upd (upd (upd H3 nmp (.lst (zs.map V.str))) p5 (.lst [.str "zz", .str "lost"])) mp (.lst ((zs ++ (["zz", "lost"] : List Str)).map V.str))) mp = some (.lst ((zs ++ (["zz", "lost"] : List Str)).map V.str)) := upd_same
  obtain ⟨H6, eH6⟩ : ∃ H6, H6 = upd (upd (upd H3 nmp (.lst (zs.map V.str))) p5 (.lst [.str "zz", .str "lost"])) mp (.lst ((zs ++ (["zz", "lost"] : List Str)).map V.str)) := ⟨_, rfl⟩
  rw [← eH6] at e36 hmp6 ⊢
  clear eH6 e4 e5
  have d6 := d3.keep e36
  have lm5 : 2 ≤ (zs ++ (["zz", "lost"] : List Str)).length ∧ (zs ++ (["zz", "lost"] : List Str)).length ≤ 5 := by
    rw [List.length_append]
    show 2 ≤ zs.length + 2 ∧ zs.length + 2 ≤ 5
    omega
  have mpd : mp ≠ d := fun z => by
    obtain ⟨_, _, _, hd6, _⟩ := d6.1
    rw [z, hd6] at hmp6
    injection hmp6 with hh
    injection hh with hh
    have := congrArg (List.map fun v : V => match v with | .str _ => true | _ => false) hh
    cases zs with
    | nil => cases this
    | cons z0 r0 => cases this
  generalize (zs ++ (["zz", "lost"] : List Str)) = menu at hmp6 lm5
  -- the keys
  refine ⟨_, rfl, d, sc, 5, rfl, rfl, d6, by decide, by decide, fun k H7 k0 k1 b7 d7 => ?_⟩
  obtain ⟨k, rfl, hk⟩ := drawn_of k0 k1
  refine ⟨k, rfl, by omega, by omega, fun D nD => ?_⟩
  have Dd : D ≠ d := fun z => d7.1.ne (by rw [← z]; exact nD)
  refine lc_it (walk_range (lo := 0) (n := k)) (fun i H' => But d H6 H' ∧ DrawS K H' d sc [D] ∧ H6 D = none ∧ ∃ ks0 : List Str, H' D = some (.lst (ks0.map V.str)) ∧ ks0.length = i)
    ⟨b7.trans (but_sm (smNew1 nD _)), d7.none.new nD _, gro_but b7 d7.1.ne D nD, [], upd_same, rfl⟩ (fun _ _ _ _ => trivial) ?_ ?_
  · rintro i x H8 H8' hi ⟨b8, D8, nD6, ks0, hD8, lk0⟩ ⟨rfl, rfl⟩
    refine ⟨rfl, yesI ?_⟩
    have hm8 := b8.get mpd hmp6
    refine ⟨_, rfl, _, rfl, _, rfl, mp, _, rfl, .inl (SqL.of hm8), d, sc, _, rfl, rfl, D8.one, by rw [List.length_map]; omega, by rw [List.length_map]; omega, fun v H9 v0 v1 b9 d9 => ?_⟩
    obtain ⟨v, rfl, hv⟩ := drawn_of v0 v1
    rw [List.length_map] at hv
    obtain ⟨z, hz⟩ : ∃ z, menu[v]? = some z := ⟨_, List.getElem?_eq_getElem (by omega)⟩
    refine ⟨mp, _, _, .str z, rfl, rfl, SqL.of (b9.get mpd hm8), atI_nat (by rw [List.getElem?_map, hz]; rfl), ?_⟩
    refine ⟨_, b9.get Dd hD8, small1000 (by rw [List.length_map]; omega), but_new (b8.trans b9) nD6, (D8.but b9 d9).upd _ (by simp), nD6, ks0 ++ [z], by rw [upd_same, List.map_append]; rfl, by rw [List.length_append, lk0]; rfl⟩
  rintro H8 ⟨b8, D8, nD6, ks0, hD8, lk0⟩
  have L38 : Ls [d] H3 H8 := (Ls.sm e36).trans (Ls.but b8 d6.1 (by simp))
  have pa8 := L38.prg pa
  have sS8 := L38.sur sS
  have ca8 : CaseAt K H8 r vm l gs := (caD.keep (fun b u hb => by
    have bd : b ≠ d := fun z => by rw [z, del_same] at hb; cases hb
    rw [del_ne bd] at hb
    exact b8.get bd (e36 _ _ hb))).keep (Same.refl _)
  obtain ⟨dxp, vp, hap, hvp⟩ := id pa8
  -- what is due
  refine ⟨_, rfl, _, rfl, pr, dxp, _, rfl, hap, rfl, pr, l, rfl, pa8, by omega, by omega, fun ks t H9 e9 ht hks => ?_⟩
  have kin : ∀ k ∈ ks, k ∈ wKeys vm' := reads_in kl' hks
  have wk : ∀ k ∈ ks, isWord k = true := fun k hk => by
    obtain ⟨q0, hq0, rfl⟩ := List.mem_map.mp (kin k hk)
    exact (okv'.1 q0 hq0).1
  have lk : ks.length ≤ 3 := by
    have := nodup_sub_len hks.2.1 kin
    omega
  refine seqA_of (.inr (SqT.of ht)) (Same.refl _) fun J wlk => ?_
  intro D9 nD9
  refine lc_opt wlk (fun (z : Str) y _ => y = .str z) (fun i => (ks[i]?).bind fun z => if z ∈ ks0 then some z else none) nD9 (small1000 (by rw [List.length_map]; omega)) (fun H' e => e) (fun _ _ _ _ h _ => h) (fun _ _ _ _ _ h _ => h) ?_ ?_
  · rintro i x HA HB N hi e ⟨rfl, hx⟩ hk hno
    rw [List.getElem?_map] at hx
    obtain ⟨k, hk1, rfl⟩ := Option.map_eq_some_iff.mp hx
    refine ⟨rfl, _, rfl, _, rfl, D, _, rfl, .inl (SqL.of ((e9.trans e) _ _ hD8)), rfl, flat_strs ks0, _, rfl, ?_⟩
    show if (inV (V.str k) (ks0.map V.str)) = true then _ else _
    rw [inV_strs]
    by_cases hm : k ∈ ks0
    · exact ifT (decide_eq_true hm) ⟨_, rfl, hk _ _ k (by rw [hk1]; exact if_pos hm) (Same.refl _) rfl⟩
    · exact ifF (decide_eq_false hm) (hno (by rw [hk1]; exact if_neg hm) _ (Same.refl _))
  intro HA yl eA hDA hp'
  have eq1 : (List.range (ks.map V.str).length).filterMap (fun i => (ks[i]?).bind fun z => if z ∈ ks0 then some z else none) = ks.filter fun k => decide (k ∈ ks0) := by
    rw [List.length_map, filterMap_at2]
    clear hp' hDA eA hks wk lk nD9 ht wlk kin
    induction ks with
    | nil => rfl
    | cons k r ih =>
      rw [List.filterMap_cons, List.filter_cons]
      by_cases hm : k ∈ ks0
      · rw [if_pos hm, if_pos (by simpa using hm), ih]
      · rw [if_neg hm, if_neg (by simpa using hm), ih]
  rw [eq1] at hp'
  have hyl := paired_eq hp'
  subst hyl
  have lf : (ks.filter fun k => decide (k ∈ ks0)).length ≤ ks.length := List.length_filter_le ..
  have ndF : (ks.filter fun k => decide (k ∈ ks0)).Nodup := hks.2.1.sublist List.filter_sublist
  have wkF : ∀ k ∈ ks.filter fun k => decide (k ∈ ks0), isWord k = true := fun k hk => wk k (List.mem_filter.mp hk).1
  have e8A := e9.trans eA
  refine ⟨r, vm, l, gs, D9, ks.filter fun k => decide (k ∈ ks0), rfl, rfl, rfl, ca8.keep e8A, vl, SqL.of hDA, ndF, wkF, by omega, fun vd HB eB hvd => ?_⟩
  have e8B := e8A.trans eB
  -- what is told
  refine ⟨_, rfl, _, rfl, pr, l, D, ks0, rfl, rfl, pa8.keep e8B, wl, by omega, by omega, vl, .inl (SqL.of (e8B _ _ hD8)), fun ks2 hks2 => ?_⟩
  obtain rfl : ks = ks2 := RM.KeysOf.one hks hks2 fun _ => Iff.rfl
  refine ⟨wk, by omega, fun pn HC eC npn ppn => ?_⟩
  obtain ⟨nm1, nm2, nm3, nm4⟩ := nmOf_ok (l := l) vl wkF (by omega) ndF
  obtain ⟨r1, r2, r3, r4⟩ := reads_shape (nmOf l (ks.filter fun k => decide (k ∈ ks0)))
  have cP : cB (pinL (nmOf l (ks.filter fun k => decide (k ∈ ks0))) l) ≤ 60 := by
    unfold pinL
    rw [cB_app, r2, nm2, cB_pin]
    omega
  have dP : dB (pinL (nmOf l (ks.filter fun k => decide (k ∈ ks0))) l) ≤ 4 := by
    unfold pinL
    rw [dB_app1, r1, dB_pin]
    omega
  have wP : wB (pinL (nmOf l (ks.filter fun k => decide (k ∈ ks0))) l) = true := by
    unfold pinL
    rw [wB_app, r3 fun q hq => ⟨(nm1 q hq).2.1, (nm1 q hq).2.2.1⟩, wB_pin (fun q hq => (nm1 q hq).2.2.1) l wl]
    rfl
  have kP : kB (wKeys vm') (pinL (nmOf l (ks.filter fun k => decide (k ∈ ks0))) l) = true := by
    unfold pinL
    rw [kB_app, r4 _ fun q hq => kin _ (List.mem_filter.mp (nm1 q hq).1).1, kB_pin _ _ l kl']
    rfl
  have fP : froz (pinL (nmOf l (ks.filter fun k => decide (k ∈ ks0))) l) vm' = froz l vm' := froz_pin (fun q hq => (free_in (nm1 q hq).2.2.2).1) nm4
  generalize pinL (nmOf l (ks.filter fun k => decide (k ∈ ks0))) l = lp at hvd ppn cP dP wP kP fP
  obtain ⟨dxn, vn, hpn, hvn⟩ := id ppn
  have e8C := e8B.trans eC
  refine ⟨_, rfl, pn, _, dxn, _, vn, rfl, hpn, k_Program T, na_Program_body T, rfl, _, rfl, .tuple (encB false lp), hvn, Dp.keep eC hvd, thin_encB lp (by omega), by have := dep_encT lp; omega, fun HD eD => ?_⟩
  refine ⟨_, rfl, ifF rfl ?_⟩
  have e8D := e8C.trans eD
  have caD8 := ca8.keep e8D
  obtain ⟨va', bl', cl', yb, cv', f1, f2, f3, f4, f5, f6⟩ := caD8.at_
  refine ⟨_, rfl, _, rfl, r, _, _, .ref bl', rfl, rfl, SqL.of f1, at1, ?_⟩
  intro x2 dx2 hx2 hdx2 hne2
  have mI := mk_in (C := He.ga K "Program") hx2 hdx2 hne2
  refine ⟨x2, dx2, true, l, rfl, upd_same, .lst (SqL.of (mI _ _ f3)) (DpAll.keep mI f4), wl, by omega, by omega, fun HE offE pE => ⟨rfl, ?_⟩⟩
  have eE := mk_sm (C := He.ga K "Program") (H' := HE) hx2 hdx2 offE
  have e8E := e8D.trans eE
  have pa9 := pa8.keep e8E
  obtain ⟨dx9, v9, h9, _⟩ := id pa9
  obtain ⟨dxE, vE, hE, _⟩ := id pE
  refine ⟨pr, x2, dx9, dxE, _, _, rfl, rfl, h9, hE, pr, x2, l, l, rfl, rfl, pa9, pE, wl, wl, by omega, by omega, _, rfl, ?_⟩
  have ev : PyData.eqv (.tuple (encB false l)) (.tuple (encB false l)) = true := eqv_encB (fl := false) wl
  refine ifF (by rw [ev]; rfl) ?_
  -- frozen
  have sS9 := sS8.keep e8E
  refine ⟨_, rfl, _, rfl, pn, lp, su, vm', rfl, rfl, ppn.keep (eD.trans eE), wP, dP, cP, sS9, kP, fun pt1 HF eF hpt1 => ?_⟩
  refine ⟨_, rfl, _, rfl, pr, l, su, vm', rfl, rfl, pa9.keep eF, wl, by omega, by omega, sS9.keep eF, kl', fun pt2 HG eG hpt2 => ?_⟩
  rw [fP] at hpt1
  refine ⟨stD (froz l vm'), stD (froz l vm'), st_dp (smT eG hpt1), st_dp hpt2, st_shaped _, st_shaped _, ?_⟩
  rw [eqv_stD]
  exact q HG
end
end RM

set_option Elab.async false
set_option linter.all false
set_option maxRecDepth 100000
set_option maxHeartbeats 0
namespace RM
open PySem PySem.Spec PyProof.Rows L2
theorem law_ok {P : Program} {w : World} {K : PySem.W.Frag} {mg : Str → Option Value} {base : Heap} {fd : FuncData} (T : Top w K mg)
    (F : FunD K "law" "law" (defArgs s_law) (defBody s_law) (defScope s_law) [] [] (He.ga K "law") fd) : FnOk P w K mg base CX0 23 (He.ga K "law") fd ["_law_script"] (spLaw K) :=
  fn_0 F sc_law (fun vs H Q E h => match vs, h with | [_], _ => rfl) (b_law T)
end RM
open PySem PySem.W PySem.Calls PyProof.Rows
theorem PySem.Challenge.cw_readmoments_k14_pinned_programs_holds : PySem.Challenge.rw_readmoments_k14_pinned_programs.Holds := by
  w_on; o_law
  refine HandSHeadRun.head_any (r := OpenLaw.row PySem.Challenge.rw_readmoments_k14_pinned_programs) (q := view (OpenLaw.row PySem.Challenge.rw_readmoments_k14_pinned_programs).prog [69]) (H := RM.hk) (ob := RM.ob) (M := 9000) (loose := RM.names)
    (d := HandSHeadRun.topDef (OpenLaw.row PySem.Challenge.rw_readmoments_k14_pinned_programs).prog 69) (kwd := []) RM.ob_eq
    (by kernel_rfl) (fun s => by kernel_rfl) RM.run (by kernel_rfl) (by kernel_rfl) (by kernel_rfl) (by rfl) (by first | assumption | decide +kernel) (by decide +kernel) ⟨rfl, rfl, rfl, rfl, rfl, by decide +kernel⟩ ?hw ?hc
  case hw => w_witness2
  case hc =>
    refine L2.walk_ofE (l := PySem.Challenge.rw_readmoments_k14_pinned_programs) (n := 63) (k := 23) (x := "_law_script") (CX := L2.CX0) rfl (by decide) (by kernel_rfl) ⟨rfl, by decide, by decide⟩ ?F (fun _ _ _ _ z => z)
    intro w mg fa h Y G hmg0
    have hmg : mg ("law" : PySem.Str) = some (.ref fa) := by
      have e : (HandSHeadRun.topDef (OpenLaw.row PySem.Challenge.rw_readmoments_k14_pinned_programs).prog 69).name = ("law" : PySem.Str) := by kernel_rfl
      rw [← e]
      exact hmg0
    obtain ⟨K, KX, c⟩ := Y
    have T : RM.Top w K mg := ⟨h, KX, G, c⟩
    obtain ⟨fd, F⟩ := RM.f_law T
    have e := hmg.symm.trans (RM.g_law T)
    cases e
    have b := L2.FunD.bindsA (ps := ["_law_script"]) F fun _ _ _ _ _ _ us hl => match us, hl with | [_], _ => rfl
    exact ⟨K, fd, RM.spLaw K, KX, fun s v => b s [v] rfl, fun H a ns hl _ hS => ⟨a, ns, rfl, hS, fun _ => rfl⟩, fun base _ _ => RM.law_ok T F⟩

