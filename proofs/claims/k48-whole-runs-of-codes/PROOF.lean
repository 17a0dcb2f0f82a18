import PyProof.Rows.All
import Wide.All
import OpenK.AllK
import Wide.FinOn
import HandS.ForMost
import HandS.Exc
import HandS.TryOnly
import HandS.TryMany
import HandS.ExcField
import HandS.ExcInit
import HandS.WordsExc
import HandS.Defaults
import HandS.Flow
import HandS.Style
import HandS.IsInst
import HandS.OwnEq
import HandS.Codes
import HandS.Lambda
import HandS.CallLocal
import HandS.DictComp
import HandS.SetKeys
import HandS.SortInts
import HandS.TupAny
import HandS.TupMul
import HandS.Wide
import HandS.Conv
import HandS.Zip
import HandS.More
import HandS.RaiseMore
import HandS.HeadWalk
import HandS.Head0
import HandS.Head1
import HandS.Head2
import HandS.HeadHook1
import HandS.HeadHook2
import HandS.HeadHook3
import HandS.HeadHook4
import PySem.Challenge.RW_sevenpoints_k48_whole_runs_of_codes
set_option Elab.async false
set_option linter.all false
set_option maxRecDepth 100000
set_option maxHeartbeats 4000000
namespace K48
open PySem PySem.Spec PyProof.Rows L2
/-! the text by places -/
def top (i : Nat) : Stmt := PySem.Challenge.pw_sevenpoints_k48_whole_runs_of_codes.main.body.getD i (.Pass ⟨0, 0, 0, 0⟩)
abbrev s_BadNumberD_initD : Stmt := inClass (top 2) 0
abbrev s_BadRowD_initD : Stmt := inClass (top 3) 0
abbrev s_is_int : Stmt := top 5
abbrev s_is_row : Stmt := top 6
abbrev s_check_from_0 : Stmt := top 7
abbrev s_check_prices : Stmt := top 8
abbrev s_as_tuples : Stmt := top 9
abbrev s_operand_value : Stmt := top 11
abbrev s_value_of : Stmt := top 12
abbrev s_holds : Stmt := top 13
abbrev s_operands_of : Stmt := top 16
abbrev s_StepD_initD : Stmt := inClass (top 18) 0
abbrev s_StepD_eqD : Stmt := inClass (top 18) 1
abbrev s_CodeD_initD : Stmt := inClass (top 19) 0
abbrev s_CodeD_eqD : Stmt := inClass (top 19) 1
abbrev s_RanD_initD : Stmt := inClass (top 20) 0
abbrev s_RanD_eqD : Stmt := inClass (top 20) 1
abbrev s_is_place : Stmt := top 21
abbrev s_in_order : Stmt := top 22
abbrev s_is_held : Stmt := top 23
abbrev s_held_first : Stmt := top 24
abbrev s_operand_now : Stmt := top 25
abbrev s_with_numbers : Stmt := top 26
abbrev s_value_now : Stmt := top 27
abbrev s_holds_now : Stmt := top 28
abbrev s_is_gone : Stmt := top 29
abbrev s_do_step : Stmt := top 30
abbrev s_step_pieces : Stmt := top 31
abbrev s_DriveD_initD : Stmt := inClass (top 32) 0
abbrev s_Drive_advance : Stmt := inClass (top 32) 1
abbrev s_run_code : Stmt := top 33
abbrev s_state_after : Stmt := top 34
abbrev s_pieces_after : Stmt := top 35
abbrev s_code_cost : Stmt := top 36
abbrev s__law_pen : Stmt := top 38
abbrev s__law_draw : Stmt := top 39
abbrev s__law_pick : Stmt := top 40
abbrev s__law_far : Stmt := top 41
abbrev s__law_listed : Stmt := top 42
abbrev s__law_mixed : Stmt := top 43
abbrev s__law_in_order : Stmt := top 44
abbrev s__law_operand_now : Stmt := top 45
abbrev s__law_value_now : Stmt := top 46
abbrev s__law_pair_now : Stmt := top 47
abbrev s__law_behind : Stmt := top 48
abbrev s__law_operands_in : Stmt := top 49
abbrev s__law_step_count : Stmt := top 50
abbrev s__law_ready : Stmt := top 51
abbrev s__law_driven : Stmt := top 52
abbrev s__law_held_row : Stmt := top 53
abbrev s__law_made_step : Stmt := top 54
abbrev s__law_made_code : Stmt := top 55
abbrev s__law_some_machine_operand : Stmt := top 56
abbrev s__law_some_machine_value : Stmt := top 57
abbrev s__law_some_machine_pair : Stmt := top 58
abbrev s__law_some_machine_deed : Stmt := top 59
abbrev s__law_some_machine_step : Stmt := top 60
abbrev s__law_some_steps : Stmt := top 61
abbrev s__law_fault : Stmt := top 62
abbrev s__law_ran_right : Stmt := top 63
abbrev s__law_equal_right : Stmt := top 64
abbrev s__law_refused_right : Stmt := top 65
abbrev s_law : Stmt := top 66
def d_BadNumberD_initD : He.DefD := ⟨("BadNumber", some "__init__"), "__init__", "BadNumber.__init__", defArgs s_BadNumberD_initD, defBody s_BadNumberD_initD, defScope s_BadNumberD_initD, [], []⟩
def d_BadRowD_initD : He.DefD := ⟨("BadRow", some "__init__"), "__init__", "BadRow.__init__", defArgs s_BadRowD_initD, defBody s_BadRowD_initD, defScope s_BadRowD_initD, [], []⟩
def d_is_int : He.DefD := ⟨("is_int", none), "is_int", "is_int", defArgs s_is_int, defBody s_is_int, defScope s_is_int, [], []⟩
def d_is_row : He.DefD := ⟨("is_row", none), "is_row", "is_row", defArgs s_is_row, defBody s_is_row, defScope s_is_row, [], []⟩
def d_check_from_0 : He.DefD := ⟨("check_from_0", none), "check_from_0", "check_from_0", defArgs s_check_from_0, defBody s_check_from_0, defScope s_check_from_0, [], []⟩
def d_check_prices : He.DefD := ⟨("check_prices", none), "check_prices", "check_prices", defArgs s_check_prices, defBody s_check_prices, defScope s_check_prices, [], []⟩
def d_as_tuples : He.DefD := ⟨("as_tuples", none), "as_tuples", "as_tuples", defArgs s_as_tuples, defBody s_as_tuples, defScope s_as_tuples, [], []⟩
def d_operand_value : He.DefD := ⟨("operand_value", none), "operand_value", "operand_value", defArgs s_operand_value, defBody s_operand_value, defScope s_operand_value, [], []⟩
def d_value_of : He.DefD := ⟨("value_of", none), "value_of", "value_of", defArgs s_value_of, defBody s_value_of, defScope s_value_of, [], []⟩
def d_holds : He.DefD := ⟨("holds", none), "holds", "holds", defArgs s_holds, defBody s_holds, defScope s_holds, [], []⟩
def d_operands_of : He.DefD := ⟨("operands_of", none), "operands_of", "operands_of", defArgs s_operands_of, defBody s_operands_of, defScope s_operands_of, [], []⟩
def d_StepD_initD : He.DefD := ⟨("Step", some "__init__"), "__init__", "Step.__init__", defArgs s_StepD_initD, defBody s_StepD_initD, defScope s_StepD_initD, [], []⟩
def d_StepD_eqD : He.DefD := ⟨("Step", some "__eq__"), "__eq__", "Step.__eq__", defArgs s_StepD_eqD, defBody s_StepD_eqD, defScope s_StepD_eqD, [], []⟩
def d_CodeD_initD : He.DefD := ⟨("Code", some "__init__"), "__init__", "Code.__init__", defArgs s_CodeD_initD, defBody s_CodeD_initD, defScope s_CodeD_initD, [], []⟩
def d_CodeD_eqD : He.DefD := ⟨("Code", some "__eq__"), "__eq__", "Code.__eq__", defArgs s_CodeD_eqD, defBody s_CodeD_eqD, defScope s_CodeD_eqD, [], []⟩
def d_RanD_initD : He.DefD := ⟨("Ran", some "__init__"), "__init__", "Ran.__init__", defArgs s_RanD_initD, defBody s_RanD_initD, defScope s_RanD_initD, [], []⟩
def d_RanD_eqD : He.DefD := ⟨("Ran", some "__eq__"), "__eq__", "Ran.__eq__", defArgs s_RanD_eqD, defBody s_RanD_eqD, defScope s_RanD_eqD, [], []⟩
def d_is_place : He.DefD := ⟨("is_place", none), "is_place", "is_place", defArgs s_is_place, defBody s_is_place, defScope s_is_place, [], []⟩
def d_in_order : He.DefD := ⟨("in_order", none), "in_order", "in_order", defArgs s_in_order, defBody s_in_order, defScope s_in_order, [], []⟩
def d_is_held : He.DefD := ⟨("is_held", none), "is_held", "is_held", defArgs s_is_held, defBody s_is_held, defScope s_is_held, [], []⟩
def d_held_first : He.DefD := ⟨("held_first", none), "held_first", "held_first", defArgs s_held_first, defBody s_held_first, defScope s_held_first, [], []⟩
def d_operand_now : He.DefD := ⟨("operand_now", none), "operand_now", "operand_now", defArgs s_operand_now, defBody s_operand_now, defScope s_operand_now, [], []⟩
def d_with_numbers : He.DefD := ⟨("with_numbers", none), "with_numbers", "with_numbers", defArgs s_with_numbers, defBody s_with_numbers, defScope s_with_numbers, [], []⟩
def d_value_now : He.DefD := ⟨("value_now", none), "value_now", "value_now", defArgs s_value_now, defBody s_value_now, defScope s_value_now, [], []⟩
def d_holds_now : He.DefD := ⟨("holds_now", none), "holds_now", "holds_now", defArgs s_holds_now, defBody s_holds_now, defScope s_holds_now, [], []⟩
def d_is_gone : He.DefD := ⟨("is_gone", none), "is_gone", "is_gone", defArgs s_is_gone, defBody s_is_gone, defScope s_is_gone, [], []⟩
def d_do_step : He.DefD := ⟨("do_step", none), "do_step", "do_step", defArgs s_do_step, defBody s_do_step, defScope s_do_step, [], []⟩
def d_step_pieces : He.DefD := ⟨("step_pieces", none), "step_pieces", "step_pieces", defArgs s_step_pieces, defBody s_step_pieces, defScope s_step_pieces, [], []⟩
def d_DriveD_initD : He.DefD := ⟨("Drive", some "__init__"), "__init__", "Drive.__init__", defArgs s_DriveD_initD, defBody s_DriveD_initD, defScope s_DriveD_initD, [], []⟩
def d_Drive_advance : He.DefD := ⟨("Drive", some "advance"), "advance", "Drive.advance", defArgs s_Drive_advance, defBody s_Drive_advance, defScope s_Drive_advance, [], []⟩
def d_run_code : He.DefD := ⟨("run_code", none), "run_code", "run_code", defArgs s_run_code, defBody s_run_code, defScope s_run_code, [], []⟩
def d_state_after : He.DefD := ⟨("state_after", none), "state_after", "state_after", defArgs s_state_after, defBody s_state_after, defScope s_state_after, [], []⟩
def d_pieces_after : He.DefD := ⟨("pieces_after", none), "pieces_after", "pieces_after", defArgs s_pieces_after, defBody s_pieces_after, defScope s_pieces_after, [], []⟩
def d_code_cost : He.DefD := ⟨("code_cost", none), "code_cost", "code_cost", defArgs s_code_cost, defBody s_code_cost, defScope s_code_cost, [], []⟩
def d__law_pen : He.DefD := ⟨("_law_pen", none), "_law_pen", "_law_pen", defArgs s__law_pen, defBody s__law_pen, defScope s__law_pen, [], []⟩
def d__law_draw : He.DefD := ⟨("_law_draw", none), "_law_draw", "_law_draw", defArgs s__law_draw, defBody s__law_draw, defScope s__law_draw, [], []⟩
def d__law_pick : He.DefD := ⟨("_law_pick", none), "_law_pick", "_law_pick", defArgs s__law_pick, defBody s__law_pick, defScope s__law_pick, [], []⟩
def d__law_far : He.DefD := ⟨("_law_far", none), "_law_far", "_law_far", defArgs s__law_far, defBody s__law_far, defScope s__law_far, [], []⟩
def d__law_listed : He.DefD := ⟨("_law_listed", none), "_law_listed", "_law_listed", defArgs s__law_listed, defBody s__law_listed, defScope s__law_listed, [], []⟩
def d__law_mixed : He.DefD := ⟨("_law_mixed", none), "_law_mixed", "_law_mixed", defArgs s__law_mixed, defBody s__law_mixed, defScope s__law_mixed, [], []⟩
def d__law_in_order : He.DefD := ⟨("_law_in_order", none), "_law_in_order", "_law_in_order", defArgs s__law_in_order, defBody s__law_in_order, defScope s__law_in_order, [], []⟩
def d__law_operand_now : He.DefD := ⟨("_law_operand_now", none), "_law_operand_now", "_law_operand_now", defArgs s__law_operand_now, defBody s__law_operand_now, defScope s__law_operand_now, [], []⟩
def d__law_value_now : He.DefD := ⟨("_law_value_now", none), "_law_value_now", "_law_value_now", defArgs s__law_value_now, defBody s__law_value_now, defScope s__law_value_now, [], []⟩
def d__law_pair_now : He.DefD := ⟨("_law_pair_now", none), "_law_pair_now", "_law_pair_now", defArgs s__law_pair_now, defBody s__law_pair_now, defScope s__law_pair_now, [], []⟩
def d__law_behind : He.DefD := ⟨("_law_behind", none), "_law_behind", "_law_behind", defArgs s__law_behind, defBody s__law_behind, defScope s__law_behind, [], []⟩
def d__law_operands_in : He.DefD := ⟨("_law_operands_in", none), "_law_operands_in", "_law_operands_in", defArgs s__law_operands_in, defBody s__law_operands_in, defScope s__law_operands_in, [], []⟩
def d__law_step_count : He.DefD := ⟨("_law_step_count", none), "_law_step_count", "_law_step_count", defArgs s__law_step_count, defBody s__law_step_count, defScope s__law_step_count, [], []⟩
def d__law_ready : He.DefD := ⟨("_law_ready", none), "_law_ready", "_law_ready", defArgs s__law_ready, defBody s__law_ready, defScope s__law_ready, [], []⟩
def d__law_driven : He.DefD := ⟨("_law_driven", none), "_law_driven", "_law_driven", defArgs s__law_driven, defBody s__law_driven, defScope s__law_driven, [], []⟩
def d__law_held_row : He.DefD := ⟨("_law_held_row", none), "_law_held_row", "_law_held_row", defArgs s__law_held_row, defBody s__law_held_row, defScope s__law_held_row, [], []⟩
def d__law_made_step : He.DefD := ⟨("_law_made_step", none), "_law_made_step", "_law_made_step", defArgs s__law_made_step, defBody s__law_made_step, defScope s__law_made_step, [], []⟩
def d__law_made_code : He.DefD := ⟨("_law_made_code", none), "_law_made_code", "_law_made_code", defArgs s__law_made_code, defBody s__law_made_code, defScope s__law_made_code, [], []⟩
def d__law_some_machine_operand : He.DefD := ⟨("_law_some_machine_operand", none), "_law_some_machine_operand", "_law_some_machine_operand", defArgs s__law_some_machine_operand, defBody s__law_some_machine_operand, defScope s__law_some_machine_operand, [], []⟩
def d__law_some_machine_value : He.DefD := ⟨("_law_some_machine_value", none), "_law_some_machine_value", "_law_some_machine_value", defArgs s__law_some_machine_value, defBody s__law_some_machine_value, defScope s__law_some_machine_value, [], []⟩
def d__law_some_machine_pair : He.DefD := ⟨("_law_some_machine_pair", none), "_law_some_machine_pair", "_law_some_machine_pair", defArgs s__law_some_machine_pair, defBody s__law_some_machine_pair, defScope s__law_some_machine_pair, [], []⟩
def d__law_some_machine_deed : He.DefD := ⟨("_law_some_machine_deed", none), "_law_some_machine_deed", "_law_some_machine_deed", defArgs s__law_some_machine_deed, defBody s__law_some_machine_deed, defScope s__law_some_machine_deed, [], []⟩
def d__law_some_machine_step : He.DefD := ⟨("_law_some_machine_step", none), "_law_some_machine_step", "_law_some_machine_step", defArgs s__law_some_machine_step, defBody s__law_some_machine_step, defScope s__law_some_machine_step, [], []⟩
def d__law_some_steps : He.DefD := ⟨("_law_some_steps", none), "_law_some_steps", "_law_some_steps", defArgs s__law_some_steps, defBody s__law_some_steps, defScope s__law_some_steps, [], []⟩
def d__law_fault : He.DefD := ⟨("_law_fault", none), "_law_fault", "_law_fault", defArgs s__law_fault, defBody s__law_fault, defScope s__law_fault, [], []⟩
def d__law_ran_right : He.DefD := ⟨("_law_ran_right", none), "_law_ran_right", "_law_ran_right", defArgs s__law_ran_right, defBody s__law_ran_right, defScope s__law_ran_right, [], []⟩
def d__law_equal_right : He.DefD := ⟨("_law_equal_right", none), "_law_equal_right", "_law_equal_right", defArgs s__law_equal_right, defBody s__law_equal_right, defScope s__law_equal_right, [], []⟩
def d__law_refused_right : He.DefD := ⟨("_law_refused_right", none), "_law_refused_right", "_law_refused_right", defArgs s__law_refused_right, defBody s__law_refused_right, defScope s__law_refused_right, [], []⟩
def d_law : He.DefD := ⟨("law", none), "law", "law", defArgs s_law, defBody s_law, defScope s_law, [], []⟩
def fn : List He.DefD := [d_BadNumberD_initD, d_BadRowD_initD, d_is_int, d_is_row, d_check_from_0, d_check_prices, d_as_tuples, d_operand_value, d_value_of, d_holds, d_operands_of, d_StepD_initD, d_StepD_eqD, d_CodeD_initD, d_CodeD_eqD, d_RanD_initD, d_RanD_eqD, d_is_place, d_in_order, d_is_held, d_held_first, d_operand_now, d_with_numbers, d_value_now, d_holds_now, d_is_gone, d_do_step, d_step_pieces, d_DriveD_initD, d_Drive_advance] ++ [d_run_code, d_state_after, d_pieces_after, d_code_cost, d__law_pen, d__law_draw, d__law_pick, d__law_far, d__law_listed, d__law_mixed, d__law_in_order, d__law_operand_now, d__law_value_now, d__law_pair_now, d__law_behind, d__law_operands_in, d__law_step_count, d__law_ready, d__law_driven, d__law_held_row, d__law_made_step, d__law_made_code, d__law_some_machine_operand, d__law_some_machine_value, d__law_some_machine_pair, d__law_some_machine_deed, d__law_some_machine_step, d__law_some_steps, d__law_fault, d__law_ran_right, d__law_equal_right, d__law_refused_right, d_law]
def fa0 : List He.Fa := [.glo "is_int", .glo "is_row", .glo "check_from_0", .glo "check_prices", .glo "as_tuples", .glo "operand_value", .glo "value_of", .glo "holds", .glo "operands_of", .glo "is_place", .glo "in_order", .glo "is_held", .glo "held_first", .glo "operand_now", .glo "with_numbers", .glo "value_now", .glo "holds_now", .glo "is_gone", .glo "do_step", .glo "step_pieces", .glo "run_code", .glo "state_after", .glo "pieces_after", .glo "code_cost", .glo "_law_pen"]
def fa1 : List He.Fa := [.glo "_law_draw", .glo "_law_pick", .glo "_law_far", .glo "_law_listed", .glo "_law_mixed", .glo "_law_in_order", .glo "_law_operand_now", .glo "_law_value_now", .glo "_law_pair_now", .glo "_law_behind", .glo "_law_operands_in", .glo "_law_step_count", .glo "_law_ready", .glo "_law_driven", .glo "_law_held_row", .glo "_law_made_step", .glo "_law_made_code", .glo "_law_some_machine_operand", .glo "_law_some_machine_value", .glo "_law_some_machine_pair", .glo "_law_some_machine_deed", .glo "_law_some_machine_step", .glo "_law_some_steps", .glo "_law_fault", .glo "_law_ran_right"]
def fa2 : List He.Fa := [.glo "_law_equal_right", .glo "_law_refused_right", .glo "law", .glo "Step", .glo "Code", .glo "Ran", .glo "Drive", .glo "BadNumber", .glo "BadRow", .glo "PointError", .free "isinstance", .free "int", .free "bool", .free "tuple", .free "list", .free "len", .free "any", .free "all", .free "sorted", .free "set", .free "range", .free "sum", .free "zip", .free "repr", .free "str"]
def fa3 : List He.Fa := [.free "min", .free "dict", .int "BEGIN" 0, .cls "Step", .mkr "Step", .noat "Step" "start", .noat "Step" "deed", .noat "Step" "moves", .noat "Step" "end", .cls "Code", .mkr "Code", .noat "Code" "steps", .cls "Ran", .mkr "Ran", .noat "Ran" "value", .noat "Ran" "turns", .noat "Ran" "pieces", .cls "Drive", .mkr "Drive", .noat "Drive" "held", .noat "Drive" "point", .noat "Drive" "turns", .noat "Drive" "pieces", .noat "Drive" "result", .meth "Step" "__eq__"]
def fa4 : List He.Fa := [.meth "Code" "__eq__", .meth "Ran" "__eq__", .meth "Drive" "advance", .keep "BadNumber", .exm "BadNumber" "BadNumber" true, .exm "BadNumber" "BadRow" false, .keep "BadRow", .exm "BadRow" "BadNumber" false, .exm "BadRow" "BadRow" true]
def fa : List He.Fa := fa0 ++ (fa1 ++ (fa2 ++ (fa3 ++ (fa4))))
/-- what isinstance and the own == lean on: the class at C -/
def insB (K : PySem.W.Frag) (C : Addr) : Bool := He.eqO (PySem.W.findIn K (.ref C) "__class__") (some (some (.builtin "object.__class__"))) && (He.eqO (PySem.W.specialIn K (.builtin "object.__class__") "__get__") (some (some (.builtin "getset_descriptor.__get__"))) &&
  (decide (PySem.W.takesIn K (.builtin "object.__class__") = some true) && (decide (PySem.W.mroIn K C (.type "object") = some true) && (decide (PySem.W.kitOne K (.ref C) (.ref C) = some true) && (decide (PySem.W.kitOne K (.ref C) (.type "tuple") = some false) && decide (PySem.W.kitOne K (.ref C) (.type "list") = some false))))))
/-- the class at C is an own exception over ValueError with its own __init__ at fI -/
def oexI (K : PySem.W.Frag) (C : Addr) : Bool := match K.lookup C with
  | some ⟨.type "type", _, .cls cd, sl⟩ => (match cd.mro, sl.toList with
    | .ref C' :: bm, [_, _, _, _, some (.builtin n), _] => C' == C && (n == "ValueError.__new__" && (!cd.hasDel && (cd.hasDict && PySem.HandSPX.refsVE bm)))
    | _, _ => false)
  | _ => false
def oexB (K : PySem.W.Frag) (C fI : Addr) : Bool := oexI K C && (He.eqO (PySem.W.findIn K (.ref C) "__setattr__") (some (some (.builtin "object.__setattr__"))) && (decide (PySem.W.subIn K (.ref C) (.type "BaseException") = some true) &&
  (decide (PySem.W.typeIn K (.ref C) = some (.type "type")) && (PySem.W.keepIn K (.ref C) && (He.eqO (PySem.W.findIn K (.ref C) "__init__") (some (some (.ref fI))) && (decide (PySem.W.typeIn K (.ref fI) = some (.type "function")) &&
  (xfB K C && (He.eqO (PySem.W.findIn K (.ref C) "what") (some none) && He.eqO (PySem.W.findIn K (.ref C) "value") (some none)))))))))
/-- C.__init__, found at ValueError -/
def viB (K : PySem.W.Frag) (C : Addr) : Bool := PySem.W.readsIn K C (.type "type") && (He.eqO (PySem.W.specialIn K (.ref C) "__getattribute__") (some (some (.builtin "type.__getattribute__"))) &&
  (match PySem.W.findCls K (.ref C) (.type "type") "__init__" with | some (.val (.builtin n)) => n == "ValueError.__init__" | _ => false))
def ex (K : PySem.W.Frag) : Bool := insB K (He.ga K "Step") && (insB K (He.ga K "Code") && (insB K (He.ga K "Ran") && (oexB K (He.ga K "BadNumber") (He.ma K (He.ga K "BadNumber") "__init__") && (oexB K (He.ga K "BadRow") (He.ma K (He.ga K "BadRow") "__init__") && viB K (He.ga K "PointError")))))
/-- what the walks know of the text behind its top -/
structure Tx (K : PySem.W.Frag) (mg : Str → Option Value) : Prop where
  d : He.SaysD fa fn K
  gl : ∀ x, (He.Fa.glo x).ok K = true → mg x = some (.ref (He.ga K x))
  fr : ∀ x, (He.Fa.free x).ok K = true → mg x = none
  nt : ∀ x i, (He.Fa.int x i).ok K = true → ∃ t, mg x = some (.int i t)
  ex : ex K = true
section
variable {K : PySem.W.Frag} {mg : Str → Option Value}
theorem Tx.m_is_int (T : Tx K mg) : mg "is_int" = some (.ref (He.ga K "is_int")) := T.gl _ (T.d.fact 0 rfl)
theorem Tx.m_is_row (T : Tx K mg) : mg "is_row" = some (.ref (He.ga K "is_row")) := T.gl _ (T.d.fact 1 rfl)
theorem Tx.m_check_from_0 (T : Tx K mg) : mg "check_from_0" = some (.ref (He.ga K "check_from_0")) := T.gl _ (T.d.fact 2 rfl)
theorem Tx.m_check_prices (T : Tx K mg) : mg "check_prices" = some (.ref (He.ga K "check_prices")) := T.gl _ (T.d.fact 3 rfl)
theorem Tx.m_as_tuples (T : Tx K mg) : mg "as_tuples" = some (.ref (He.ga K "as_tuples")) := T.gl _ (T.d.fact 4 rfl)
theorem Tx.m_operand_value (T : Tx K mg) : mg "operand_value" = some (.ref (He.ga K "operand_value")) := T.gl _ (T.d.fact 5 rfl)
theorem Tx.m_value_of (T : Tx K mg) : mg "value_of" = some (.ref (He.ga K "value_of")) := T.gl _ (T.d.fact 6 rfl)
theorem Tx.m_holds (T : Tx K mg) : mg "holds" = some (.ref (He.ga K "holds")) := T.gl _ (T.d.fact 7 rfl)
theorem Tx.m_operands_of (T : Tx K mg) : mg "operands_of" = some (.ref (He.ga K "operands_of")) := T.gl _ (T.d.fact 8 rfl)
theorem Tx.m_is_place (T : Tx K mg) : mg "is_place" = some (.ref (He.ga K "is_place")) := T.gl _ (T.d.fact 9 rfl)
theorem Tx.m_in_order (T : Tx K mg) : mg "in_order" = some (.ref (He.ga K "in_order")) := T.gl _ (T.d.fact 10 rfl)
theorem Tx.m_is_held (T : Tx K mg) : mg "is_held" = some (.ref (He.ga K "is_held")) := T.gl _ (T.d.fact 11 rfl)
theorem Tx.m_held_first (T : Tx K mg) : mg "held_first" = some (.ref (He.ga K "held_first")) := T.gl _ (T.d.fact 12 rfl)
theorem Tx.m_operand_now (T : Tx K mg) : mg "operand_now" = some (.ref (He.ga K "operand_now")) := T.gl _ (T.d.fact 13 rfl)
theorem Tx.m_with_numbers (T : Tx K mg) : mg "with_numbers" = some (.ref (He.ga K "with_numbers")) := T.gl _ (T.d.fact 14 rfl)
theorem Tx.m_value_now (T : Tx K mg) : mg "value_now" = some (.ref (He.ga K "value_now")) := T.gl _ (T.d.fact 15 rfl)
theorem Tx.m_holds_now (T : Tx K mg) : mg "holds_now" = some (.ref (He.ga K "holds_now")) := T.gl _ (T.d.fact 16 rfl)
theorem Tx.m_is_gone (T : Tx K mg) : mg "is_gone" = some (.ref (He.ga K "is_gone")) := T.gl _ (T.d.fact 17 rfl)
theorem Tx.m_do_step (T : Tx K mg) : mg "do_step" = some (.ref (He.ga K "do_step")) := T.gl _ (T.d.fact 18 rfl)
theorem Tx.m_step_pieces (T : Tx K mg) : mg "step_pieces" = some (.ref (He.ga K "step_pieces")) := T.gl _ (T.d.fact 19 rfl)
theorem Tx.m_run_code (T : Tx K mg) : mg "run_code" = some (.ref (He.ga K "run_code")) := T.gl _ (T.d.fact 20 rfl)
theorem Tx.m_state_after (T : Tx K mg) : mg "state_after" = some (.ref (He.ga K "state_after")) := T.gl _ (T.d.fact 21 rfl)
theorem Tx.m_pieces_after (T : Tx K mg) : mg "pieces_after" = some (.ref (He.ga K "pieces_after")) := T.gl _ (T.d.fact 22 rfl)
theorem Tx.m_code_cost (T : Tx K mg) : mg "code_cost" = some (.ref (He.ga K "code_cost")) := T.gl _ (T.d.fact 23 rfl)
theorem Tx.m_q_pen (T : Tx K mg) : mg "_law_pen" = some (.ref (He.ga K "_law_pen")) := T.gl _ (T.d.fact 24 rfl)
theorem Tx.m_q_draw (T : Tx K mg) : mg "_law_draw" = some (.ref (He.ga K "_law_draw")) := T.gl _ (T.d.fact 25 rfl)
theorem Tx.m_q_pick (T : Tx K mg) : mg "_law_pick" = some (.ref (He.ga K "_law_pick")) := T.gl _ (T.d.fact 26 rfl)
theorem Tx.m_q_far (T : Tx K mg) : mg "_law_far" = some (.ref (He.ga K "_law_far")) := T.gl _ (T.d.fact 27 rfl)
theorem Tx.m_q_listed (T : Tx K mg) : mg "_law_listed" = some (.ref (He.ga K "_law_listed")) := T.gl _ (T.d.fact 28 rfl)
theorem Tx.m_q_mixed (T : Tx K mg) : mg "_law_mixed" = some (.ref (He.ga K "_law_mixed")) := T.gl _ (T.d.fact 29 rfl)
theorem Tx.m_q_in_order (T : Tx K mg) : mg "_law_in_order" = some (.ref (He.ga K "_law_in_order")) := T.gl _ (T.d.fact 30 rfl)
theorem Tx.m_q_operand_now (T : Tx K mg) : mg "_law_operand_now" = some (.ref (He.ga K "_law_operand_now")) := T.gl _ (T.d.fact 31 rfl)
theorem Tx.m_q_value_now (T : Tx K mg) : mg "_law_value_now" = some (.ref (He.ga K "_law_value_now")) := T.gl _ (T.d.fact 32 rfl)
theorem Tx.m_q_pair_now (T : Tx K mg) : mg "_law_pair_now" = some (.ref (He.ga K "_law_pair_now")) := T.gl _ (T.d.fact 33 rfl)
theorem Tx.m_q_behind (T : Tx K mg) : mg "_law_behind" = some (.ref (He.ga K "_law_behind")) := T.gl _ (T.d.fact 34 rfl)
theorem Tx.m_q_operands_in (T : Tx K mg) : mg "_law_operands_in" = some (.ref (He.ga K "_law_operands_in")) := T.gl _ (T.d.fact 35 rfl)
theorem Tx.m_q_step_count (T : Tx K mg) : mg "_law_step_count" = some (.ref (He.ga K "_law_step_count")) := T.gl _ (T.d.fact 36 rfl)
theorem Tx.m_q_ready (T : Tx K mg) : mg "_law_ready" = some (.ref (He.ga K "_law_ready")) := T.gl _ (T.d.fact 37 rfl)
theorem Tx.m_q_driven (T : Tx K mg) : mg "_law_driven" = some (.ref (He.ga K "_law_driven")) := T.gl _ (T.d.fact 38 rfl)
theorem Tx.m_q_held_row (T : Tx K mg) : mg "_law_held_row" = some (.ref (He.ga K "_law_held_row")) := T.gl _ (T.d.fact 39 rfl)
theorem Tx.m_q_made_step (T : Tx K mg) : mg "_law_made_step" = some (.ref (He.ga K "_law_made_step")) := T.gl _ (T.d.fact 40 rfl)
theorem Tx.m_q_made_code (T : Tx K mg) : mg "_law_made_code" = some (.ref (He.ga K "_law_made_code")) := T.gl _ (T.d.fact 41 rfl)
theorem Tx.m_q_some_machine_operand (T : Tx K mg) : mg "_law_some_machine_operand" = some (.ref (He.ga K "_law_some_machine_operand")) := T.gl _ (T.d.fact 42 rfl)
theorem Tx.m_q_some_machine_value (T : Tx K mg) : mg "_law_some_machine_value" = some (.ref (He.ga K "_law_some_machine_value")) := T.gl _ (T.d.fact 43 rfl)
theorem Tx.m_q_some_machine_pair (T : Tx K mg) : mg "_law_some_machine_pair" = some (.ref (He.ga K "_law_some_machine_pair")) := T.gl _ (T.d.fact 44 rfl)
theorem Tx.m_q_some_machine_deed (T : Tx K mg) : mg "_law_some_machine_deed" = some (.ref (He.ga K "_law_some_machine_deed")) := T.gl _ (T.d.fact 45 rfl)
theorem Tx.m_q_some_machine_step (T : Tx K mg) : mg "_law_some_machine_step" = some (.ref (He.ga K "_law_some_machine_step")) := T.gl _ (T.d.fact 46 rfl)
theorem Tx.m_q_some_steps (T : Tx K mg) : mg "_law_some_steps" = some (.ref (He.ga K "_law_some_steps")) := T.gl _ (T.d.fact 47 rfl)
theorem Tx.m_q_fault (T : Tx K mg) : mg "_law_fault" = some (.ref (He.ga K "_law_fault")) := T.gl _ (T.d.fact 48 rfl)
theorem Tx.m_q_ran_right (T : Tx K mg) : mg "_law_ran_right" = some (.ref (He.ga K "_law_ran_right")) := T.gl _ (T.d.fact 49 rfl)
theorem Tx.m_q_equal_right (T : Tx K mg) : mg "_law_equal_right" = some (.ref (He.ga K "_law_equal_right")) := T.gl _ (T.d.fact 50 rfl)
theorem Tx.m_q_refused_right (T : Tx K mg) : mg "_law_refused_right" = some (.ref (He.ga K "_law_refused_right")) := T.gl _ (T.d.fact 51 rfl)
theorem Tx.m_law (T : Tx K mg) : mg "law" = some (.ref (He.ga K "law")) := T.gl _ (T.d.fact 52 rfl)
theorem Tx.m_Step (T : Tx K mg) : mg "Step" = some (.ref (He.ga K "Step")) := T.gl _ (T.d.fact 53 rfl)
theorem Tx.m_Code (T : Tx K mg) : mg "Code" = some (.ref (He.ga K "Code")) := T.gl _ (T.d.fact 54 rfl)
theorem Tx.m_Ran (T : Tx K mg) : mg "Ran" = some (.ref (He.ga K "Ran")) := T.gl _ (T.d.fact 55 rfl)
theorem Tx.m_Drive (T : Tx K mg) : mg "Drive" = some (.ref (He.ga K "Drive")) := T.gl _ (T.d.fact 56 rfl)
theorem Tx.m_BadNumber (T : Tx K mg) : mg "BadNumber" = some (.ref (He.ga K "BadNumber")) := T.gl _ (T.d.fact 57 rfl)
theorem Tx.m_BadRow (T : Tx K mg) : mg "BadRow" = some (.ref (He.ga K "BadRow")) := T.gl _ (T.d.fact 58 rfl)
theorem Tx.m_PointError (T : Tx K mg) : mg "PointError" = some (.ref (He.ga K "PointError")) := T.gl _ (T.d.fact 59 rfl)
theorem Tx.z_isinstance (T : Tx K mg) : mg "isinstance" = none := T.fr _ (T.d.fact 60 rfl)
theorem Tx.z_int (T : Tx K mg) : mg "int" = none := T.fr _ (T.d.fact 61 rfl)
theorem Tx.z_bool (T : Tx K mg) : mg "bool" = none := T.fr _ (T.d.fact 62 rfl)
theorem Tx.z_tuple (T : Tx K mg) : mg "tuple" = none := T.fr _ (T.d.fact 63 rfl)
theorem Tx.z_list (T : Tx K mg) : mg "list" = none := T.fr _ (T.d.fact 64 rfl)
theorem Tx.z_len (T : Tx K mg) : mg "len" = none := T.fr _ (T.d.fact 65 rfl)
theorem Tx.z_any (T : Tx K mg) : mg "any" = none := T.fr _ (T.d.fact 66 rfl)
theorem Tx.z_all (T : Tx K mg) : mg "all" = none := T.fr _ (T.d.fact 67 rfl)
theorem Tx.z_sorted (T : Tx K mg) : mg "sorted" = none := T.fr _ (T.d.fact 68 rfl)
theorem Tx.z_set (T : Tx K mg) : mg "set" = none := T.fr _ (T.d.fact 69 rfl)
theorem Tx.z_range (T : Tx K mg) : mg "range" = none := T.fr _ (T.d.fact 70 rfl)
theorem Tx.z_sum (T : Tx K mg) : mg "sum" = none := T.fr _ (T.d.fact 71 rfl)
theorem Tx.z_zip (T : Tx K mg) : mg "zip" = none := T.fr _ (T.d.fact 72 rfl)
theorem Tx.z_repr (T : Tx K mg) : mg "repr" = none := T.fr _ (T.d.fact 73 rfl)
theorem Tx.z_str (T : Tx K mg) : mg "str" = none := T.fr _ (T.d.fact 74 rfl)
theorem Tx.z_min (T : Tx K mg) : mg "min" = none := T.fr _ (T.d.fact 75 rfl)
theorem Tx.z_dict (T : Tx K mg) : mg "dict" = none := T.fr _ (T.d.fact 76 rfl)
theorem Tx.m_BEGIN (T : Tx K mg) : ∃ t, mg "BEGIN" = some (.int 0 t) := T.nt _ _ (T.d.fact 77 rfl)
theorem Tx.c_Step (T : Tx K mg) : Cls K (He.ga K "Step") := He.cls_ok (T.d.fact 78 rfl)
theorem Tx.k_Step (T : Tx K mg) : Mk K (He.ga K "Step") (He.ma K (He.ga K "Step") "__init__") := He.mkr_ok (T.d.fact 79 rfl)
theorem Tx.n_Step_start (T : Tx K mg) : NoAttr K (He.ga K "Step") "start" := He.noat_ok (T.d.fact 80 rfl)
theorem Tx.n_Step_deed (T : Tx K mg) : NoAttr K (He.ga K "Step") "deed" := He.noat_ok (T.d.fact 81 rfl)
theorem Tx.n_Step_moves (T : Tx K mg) : NoAttr K (He.ga K "Step") "moves" := He.noat_ok (T.d.fact 82 rfl)
theorem Tx.n_Step_end (T : Tx K mg) : NoAttr K (He.ga K "Step") "end" := He.noat_ok (T.d.fact 83 rfl)
theorem Tx.c_Code (T : Tx K mg) : Cls K (He.ga K "Code") := He.cls_ok (T.d.fact 84 rfl)
theorem Tx.k_Code (T : Tx K mg) : Mk K (He.ga K "Code") (He.ma K (He.ga K "Code") "__init__") := He.mkr_ok (T.d.fact 85 rfl)
theorem Tx.n_Code_steps (T : Tx K mg) : NoAttr K (He.ga K "Code") "steps" := He.noat_ok (T.d.fact 86 rfl)
theorem Tx.c_Ran (T : Tx K mg) : Cls K (He.ga K "Ran") := He.cls_ok (T.d.fact 87 rfl)
theorem Tx.k_Ran (T : Tx K mg) : Mk K (He.ga K "Ran") (He.ma K (He.ga K "Ran") "__init__") := He.mkr_ok (T.d.fact 88 rfl)
theorem Tx.n_Ran_value (T : Tx K mg) : NoAttr K (He.ga K "Ran") "value" := He.noat_ok (T.d.fact 89 rfl)
theorem Tx.n_Ran_turns (T : Tx K mg) : NoAttr K (He.ga K "Ran") "turns" := He.noat_ok (T.d.fact 90 rfl)
theorem Tx.n_Ran_pieces (T : Tx K mg) : NoAttr K (He.ga K "Ran") "pieces" := He.noat_ok (T.d.fact 91 rfl)
theorem Tx.c_Drive (T : Tx K mg) : Cls K (He.ga K "Drive") := He.cls_ok (T.d.fact 92 rfl)
theorem Tx.k_Drive (T : Tx K mg) : Mk K (He.ga K "Drive") (He.ma K (He.ga K "Drive") "__init__") := He.mkr_ok (T.d.fact 93 rfl)
theorem Tx.n_Drive_held (T : Tx K mg) : NoAttr K (He.ga K "Drive") "held" := He.noat_ok (T.d.fact 94 rfl)
theorem Tx.n_Drive_point (T : Tx K mg) : NoAttr K (He.ga K "Drive") "point" := He.noat_ok (T.d.fact 95 rfl)
theorem Tx.n_Drive_turns (T : Tx K mg) : NoAttr K (He.ga K "Drive") "turns" := He.noat_ok (T.d.fact 96 rfl)
theorem Tx.n_Drive_pieces (T : Tx K mg) : NoAttr K (He.ga K "Drive") "pieces" := He.noat_ok (T.d.fact 97 rfl)
theorem Tx.n_Drive_result (T : Tx K mg) : NoAttr K (He.ga K "Drive") "result" := He.noat_ok (T.d.fact 98 rfl)
theorem Tx.e_Step (T : Tx K mg) : Meth K (He.ga K "Step") "__eq__" (He.ma K (He.ga K "Step") "__eq__") := He.meth_ok (T.d.fact 99 rfl)
theorem Tx.e_Code (T : Tx K mg) : Meth K (He.ga K "Code") "__eq__" (He.ma K (He.ga K "Code") "__eq__") := He.meth_ok (T.d.fact 100 rfl)
theorem Tx.e_Ran (T : Tx K mg) : Meth K (He.ga K "Ran") "__eq__" (He.ma K (He.ga K "Ran") "__eq__") := He.meth_ok (T.d.fact 101 rfl)
theorem Tx.e_Drive (T : Tx K mg) : Meth K (He.ga K "Drive") "advance" (He.ma K (He.ga K "Drive") "advance") := He.meth_ok (T.d.fact 102 rfl)
theorem Tx.kp_BadNumber (T : Tx K mg) : PySem.W.keepIn K (.ref (He.ga K "BadNumber")) = true := He.keep_ok (T.d.fact 103 rfl)
theorem Tx.x_BadNumber_BadNumber (T : Tx K mg) : PySem.W.exmOne K (.ref (He.ga K "BadNumber")) (.ref (He.ga K "BadNumber")) = some true := He.exm_ok (T.d.fact 104 rfl)
theorem Tx.x_BadNumber_BadRow (T : Tx K mg) : PySem.W.exmOne K (.ref (He.ga K "BadNumber")) (.ref (He.ga K "BadRow")) = some false := He.exm_ok (T.d.fact 105 rfl)
theorem Tx.kp_BadRow (T : Tx K mg) : PySem.W.keepIn K (.ref (He.ga K "BadRow")) = true := He.keep_ok (T.d.fact 106 rfl)
theorem Tx.x_BadRow_BadNumber (T : Tx K mg) : PySem.W.exmOne K (.ref (He.ga K "BadRow")) (.ref (He.ga K "BadNumber")) = some false := He.exm_ok (T.d.fact 107 rfl)
theorem Tx.x_BadRow_BadRow (T : Tx K mg) : PySem.W.exmOne K (.ref (He.ga K "BadRow")) (.ref (He.ga K "BadRow")) = some true := He.exm_ok (T.d.fact 108 rfl)
theorem Tx.f_BadNumberD_initD (T : Tx K mg) : ∃ fd, FunD K "__init__" "BadNumber.__init__" (defArgs s_BadNumberD_initD) (defBody s_BadNumberD_initD) (defScope s_BadNumberD_initD) [] [] (He.ma K (He.ga K "BadNumber") "__init__") fd := T.d.def_ 0 (d := d_BadNumberD_initD) rfl
theorem Tx.f_BadRowD_initD (T : Tx K mg) : ∃ fd, FunD K "__init__" "BadRow.__init__" (defArgs s_BadRowD_initD) (defBody s_BadRowD_initD) (defScope s_BadRowD_initD) [] [] (He.ma K (He.ga K "BadRow") "__init__") fd := T.d.def_ 1 (d := d_BadRowD_initD) rfl
theorem Tx.f_is_int (T : Tx K mg) : ∃ fd, FunD K "is_int" "is_int" (defArgs s_is_int) (defBody s_is_int) (defScope s_is_int) [] [] (He.ga K "is_int") fd := T.d.def_ 2 (d := d_is_int) rfl
theorem Tx.f_is_row (T : Tx K mg) : ∃ fd, FunD K "is_row" "is_row" (defArgs s_is_row) (defBody s_is_row) (defScope s_is_row) [] [] (He.ga K "is_row") fd := T.d.def_ 3 (d := d_is_row) rfl
theorem Tx.f_check_from_0 (T : Tx K mg) : ∃ fd, FunD K "check_from_0" "check_from_0" (defArgs s_check_from_0) (defBody s_check_from_0) (defScope s_check_from_0) [] [] (He.ga K "check_from_0") fd := T.d.def_ 4 (d := d_check_from_0) rfl
theorem Tx.f_check_prices (T : Tx K mg) : ∃ fd, FunD K "check_prices" "check_prices" (defArgs s_check_prices) (defBody s_check_prices) (defScope s_check_prices) [] [] (He.ga K "check_prices") fd := T.d.def_ 5 (d := d_check_prices) rfl
theorem Tx.f_as_tuples (T : Tx K mg) : ∃ fd, FunD K "as_tuples" "as_tuples" (defArgs s_as_tuples) (defBody s_as_tuples) (defScope s_as_tuples) [] [] (He.ga K "as_tuples") fd := T.d.def_ 6 (d := d_as_tuples) rfl
theorem Tx.f_operand_value (T : Tx K mg) : ∃ fd, FunD K "operand_value" "operand_value" (defArgs s_operand_value) (defBody s_operand_value) (defScope s_operand_value) [] [] (He.ga K "operand_value") fd := T.d.def_ 7 (d := d_operand_value) rfl
theorem Tx.f_value_of (T : Tx K mg) : ∃ fd, FunD K "value_of" "value_of" (defArgs s_value_of) (defBody s_value_of) (defScope s_value_of) [] [] (He.ga K "value_of") fd := T.d.def_ 8 (d := d_value_of) rfl
theorem Tx.f_holds (T : Tx K mg) : ∃ fd, FunD K "holds" "holds" (defArgs s_holds) (defBody s_holds) (defScope s_holds) [] [] (He.ga K "holds") fd := T.d.def_ 9 (d := d_holds) rfl
theorem Tx.f_operands_of (T : Tx K mg) : ∃ fd, FunD K "operands_of" "operands_of" (defArgs s_operands_of) (defBody s_operands_of) (defScope s_operands_of) [] [] (He.ga K "operands_of") fd := T.d.def_ 10 (d := d_operands_of) rfl
theorem Tx.f_StepD_initD (T : Tx K mg) : ∃ fd, FunD K "__init__" "Step.__init__" (defArgs s_StepD_initD) (defBody s_StepD_initD) (defScope s_StepD_initD) [] [] (He.ma K (He.ga K "Step") "__init__") fd := T.d.def_ 11 (d := d_StepD_initD) rfl
theorem Tx.f_StepD_eqD (T : Tx K mg) : ∃ fd, FunD K "__eq__" "Step.__eq__" (defArgs s_StepD_eqD) (defBody s_StepD_eqD) (defScope s_StepD_eqD) [] [] (He.ma K (He.ga K "Step") "__eq__") fd := T.d.def_ 12 (d := d_StepD_eqD) rfl
theorem Tx.f_CodeD_initD (T : Tx K mg) : ∃ fd, FunD K "__init__" "Code.__init__" (defArgs s_CodeD_initD) (defBody s_CodeD_initD) (defScope s_CodeD_initD) [] [] (He.ma K (He.ga K "Code") "__init__") fd := T.d.def_ 13 (d := d_CodeD_initD) rfl
theorem Tx.f_CodeD_eqD (T : Tx K mg) : ∃ fd, FunD K "__eq__" "Code.__eq__" (defArgs s_CodeD_eqD) (defBody s_CodeD_eqD) (defScope s_CodeD_eqD) [] [] (He.ma K (He.ga K "Code") "__eq__") fd := T.d.def_ 14 (d := d_CodeD_eqD) rfl
theorem Tx.f_RanD_initD (T : Tx K mg) : ∃ fd, FunD K "__init__" "Ran.__init__" (defArgs s_RanD_initD) (defBody s_RanD_initD) (defScope s_RanD_initD) [] [] (He.ma K (He.ga K "Ran") "__init__") fd := T.d.def_ 15 (d := d_RanD_initD) rfl
theorem Tx.f_RanD_eqD (T : Tx K mg) : ∃ fd, FunD K "__eq__" "Ran.__eq__" (defArgs s_RanD_eqD) (defBody s_RanD_eqD) (defScope s_RanD_eqD) [] [] (He.ma K (He.ga K "Ran") "__eq__") fd := T.d.def_ 16 (d := d_RanD_eqD) rfl
theorem Tx.f_is_place (T : Tx K mg) : ∃ fd, FunD K "is_place" "is_place" (defArgs s_is_place) (defBody s_is_place) (defScope s_is_place) [] [] (He.ga K "is_place") fd := T.d.def_ 17 (d := d_is_place) rfl
theorem Tx.f_in_order (T : Tx K mg) : ∃ fd, FunD K "in_order" "in_order" (defArgs s_in_order) (defBody s_in_order) (defScope s_in_order) [] [] (He.ga K "in_order") fd := T.d.def_ 18 (d := d_in_order) rfl
theorem Tx.f_is_held (T : Tx K mg) : ∃ fd, FunD K "is_held" "is_held" (defArgs s_is_held) (defBody s_is_held) (defScope s_is_held) [] [] (He.ga K "is_held") fd := T.d.def_ 19 (d := d_is_held) rfl
theorem Tx.f_held_first (T : Tx K mg) : ∃ fd, FunD K "held_first" "held_first" (defArgs s_held_first) (defBody s_held_first) (defScope s_held_first) [] [] (He.ga K "held_first") fd := T.d.def_ 20 (d := d_held_first) rfl
theorem Tx.f_operand_now (T : Tx K mg) : ∃ fd, FunD K "operand_now" "operand_now" (defArgs s_operand_now) (defBody s_operand_now) (defScope s_operand_now) [] [] (He.ga K "operand_now") fd := T.d.def_ 21 (d := d_operand_now) rfl
theorem Tx.f_with_numbers (T : Tx K mg) : ∃ fd, FunD K "with_numbers" "with_numbers" (defArgs s_with_numbers) (defBody s_with_numbers) (defScope s_with_numbers) [] [] (He.ga K "with_numbers") fd := T.d.def_ 22 (d := d_with_numbers) rfl
theorem Tx.f_value_now (T : Tx K mg) : ∃ fd, FunD K "value_now" "value_now" (defArgs s_value_now) (defBody s_value_now) (defScope s_value_now) [] [] (He.ga K "value_now") fd := T.d.def_ 23 (d := d_value_now) rfl
theorem Tx.f_holds_now (T : Tx K mg) : ∃ fd, FunD K "holds_now" "holds_now" (defArgs s_holds_now) (defBody s_holds_now) (defScope s_holds_now) [] [] (He.ga K "holds_now") fd := T.d.def_ 24 (d := d_holds_now) rfl
theorem Tx.f_is_gone (T : Tx K mg) : ∃ fd, FunD K "is_gone" "is_gone" (defArgs s_is_gone) (defBody s_is_gone) (defScope s_is_gone) [] [] (He.ga K "is_gone") fd := T.d.def_ 25 (d := d_is_gone) rfl
theorem Tx.f_do_step (T : Tx K mg) : ∃ fd, FunD K "do_step" "do_step" (defArgs s_do_step) (defBody s_do_step) (defScope s_do_step) [] [] (He.ga K "do_step") fd := T.d.def_ 26 (d := d_do_step) rfl
theorem Tx.f_step_pieces (T : Tx K mg) : ∃ fd, FunD K "step_pieces" "step_pieces" (defArgs s_step_pieces) (defBody s_step_pieces) (defScope s_step_pieces) [] [] (He.ga K "step_pieces") fd := T.d.def_ 27 (d := d_step_pieces) rfl
theorem Tx.f_DriveD_initD (T : Tx K mg) : ∃ fd, FunD K "__init__" "Drive.__init__" (defArgs s_DriveD_initD) (defBody s_DriveD_initD) (defScope s_DriveD_initD) [] [] (He.ma K (He.ga K "Drive") "__init__") fd := T.d.def_ 28 (d := d_DriveD_initD) rfl
theorem Tx.f_Drive_advance (T : Tx K mg) : ∃ fd, FunD K "advance" "Drive.advance" (defArgs s_Drive_advance) (defBody s_Drive_advance) (defScope s_Drive_advance) [] [] (He.ma K (He.ga K "Drive") "advance") fd := T.d.def_ 29 (d := d_Drive_advance) rfl
theorem Tx.f_run_code (T : Tx K mg) : ∃ fd, FunD K "run_code" "run_code" (defArgs s_run_code) (defBody s_run_code) (defScope s_run_code) [] [] (He.ga K "run_code") fd := T.d.def_ 30 (d := d_run_code) rfl
theorem Tx.f_state_after (T : Tx K mg) : ∃ fd, FunD K "state_after" "state_after" (defArgs s_state_after) (defBody s_state_after) (defScope s_state_after) [] [] (He.ga K "state_after") fd := T.d.def_ 31 (d := d_state_after) rfl
theorem Tx.f_pieces_after (T : Tx K mg) : ∃ fd, FunD K "pieces_after" "pieces_after" (defArgs s_pieces_after) (defBody s_pieces_after) (defScope s_pieces_after) [] [] (He.ga K "pieces_after") fd := T.d.def_ 32 (d := d_pieces_after) rfl
theorem Tx.f_code_cost (T : Tx K mg) : ∃ fd, FunD K "code_cost" "code_cost" (defArgs s_code_cost) (defBody s_code_cost) (defScope s_code_cost) [] [] (He.ga K "code_cost") fd := T.d.def_ 33 (d := d_code_cost) rfl
theorem Tx.f_q_pen (T : Tx K mg) : ∃ fd, FunD K "_law_pen" "_law_pen" (defArgs s__law_pen) (defBody s__law_pen) (defScope s__law_pen) [] [] (He.ga K "_law_pen") fd := T.d.def_ 34 (d := d__law_pen) rfl
theorem Tx.f_q_draw (T : Tx K mg) : ∃ fd, FunD K "_law_draw" "_law_draw" (defArgs s__law_draw) (defBody s__law_draw) (defScope s__law_draw) [] [] (He.ga K "_law_draw") fd := T.d.def_ 35 (d := d__law_draw) rfl
theorem Tx.f_q_pick (T : Tx K mg) : ∃ fd, FunD K "_law_pick" "_law_pick" (defArgs s__law_pick) (defBody s__law_pick) (defScope s__law_pick) [] [] (He.ga K "_law_pick") fd := T.d.def_ 36 (d := d__law_pick) rfl
theorem Tx.f_q_far (T : Tx K mg) : ∃ fd, FunD K "_law_far" "_law_far" (defArgs s__law_far) (defBody s__law_far) (defScope s__law_far) [] [] (He.ga K "_law_far") fd := T.d.def_ 37 (d := d__law_far) rfl
theorem Tx.f_q_listed (T : Tx K mg) : ∃ fd, FunD K "_law_listed" "_law_listed" (defArgs s__law_listed) (defBody s__law_listed) (defScope s__law_listed) [] [] (He.ga K "_law_listed") fd := T.d.def_ 38 (d := d__law_listed) rfl
theorem Tx.f_q_mixed (T : Tx K mg) : ∃ fd, FunD K "_law_mixed" "_law_mixed" (defArgs s__law_mixed) (defBody s__law_mixed) (defScope s__law_mixed) [] [] (He.ga K "_law_mixed") fd := T.d.def_ 39 (d := d__law_mixed) rfl
theorem Tx.f_q_in_order (T : Tx K mg) : ∃ fd, FunD K "_law_in_order" "_law_in_order" (defArgs s__law_in_order) (defBody s__law_in_order) (defScope s__law_in_order) [] [] (He.ga K "_law_in_order") fd := T.d.def_ 40 (d := d__law_in_order) rfl
theorem Tx.f_q_operand_now (T : Tx K mg) : ∃ fd, FunD K "_law_operand_now" "_law_operand_now" (defArgs s__law_operand_now) (defBody s__law_operand_now) (defScope s__law_operand_now) [] [] (He.ga K "_law_operand_now") fd := T.d.def_ 41 (d := d__law_operand_now) rfl
theorem Tx.f_q_value_now (T : Tx K mg) : ∃ fd, FunD K "_law_value_now" "_law_value_now" (defArgs s__law_value_now) (defBody s__law_value_now) (defScope s__law_value_now) [] [] (He.ga K "_law_value_now") fd := T.d.def_ 42 (d := d__law_value_now) rfl
theorem Tx.f_q_pair_now (T : Tx K mg) : ∃ fd, FunD K "_law_pair_now" "_law_pair_now" (defArgs s__law_pair_now) (defBody s__law_pair_now) (defScope s__law_pair_now) [] [] (He.ga K "_law_pair_now") fd := T.d.def_ 43 (d := d__law_pair_now) rfl
theorem Tx.f_q_behind (T : Tx K mg) : ∃ fd, FunD K "_law_behind" "_law_behind" (defArgs s__law_behind) (defBody s__law_behind) (defScope s__law_behind) [] [] (He.ga K "_law_behind") fd := T.d.def_ 44 (d := d__law_behind) rfl
theorem Tx.f_q_operands_in (T : Tx K mg) : ∃ fd, FunD K "_law_operands_in" "_law_operands_in" (defArgs s__law_operands_in) (defBody s__law_operands_in) (defScope s__law_operands_in) [] [] (He.ga K "_law_operands_in") fd := T.d.def_ 45 (d := d__law_operands_in) rfl
theorem Tx.f_q_step_count (T : Tx K mg) : ∃ fd, FunD K "_law_step_count" "_law_step_count" (defArgs s__law_step_count) (defBody s__law_step_count) (defScope s__law_step_count) [] [] (He.ga K "_law_step_count") fd := T.d.def_ 46 (d := d__law_step_count) rfl
theorem Tx.f_q_ready (T : Tx K mg) : ∃ fd, FunD K "_law_ready" "_law_ready" (defArgs s__law_ready) (defBody s__law_ready) (defScope s__law_ready) [] [] (He.ga K "_law_ready") fd := T.d.def_ 47 (d := d__law_ready) rfl
theorem Tx.f_q_driven (T : Tx K mg) : ∃ fd, FunD K "_law_driven" "_law_driven" (defArgs s__law_driven) (defBody s__law_driven) (defScope s__law_driven) [] [] (He.ga K "_law_driven") fd := T.d.def_ 48 (d := d__law_driven) rfl
theorem Tx.f_q_held_row (T : Tx K mg) : ∃ fd, FunD K "_law_held_row" "_law_held_row" (defArgs s__law_held_row) (defBody s__law_held_row) (defScope s__law_held_row) [] [] (He.ga K "_law_held_row") fd := T.d.def_ 49 (d := d__law_held_row) rfl
theorem Tx.f_q_made_step (T : Tx K mg) : ∃ fd, FunD K "_law_made_step" "_law_made_step" (defArgs s__law_made_step) (defBody s__law_made_step) (defScope s__law_made_step) [] [] (He.ga K "_law_made_step") fd := T.d.def_ 50 (d := d__law_made_step) rfl
theorem Tx.f_q_made_code (T : Tx K mg) : ∃ fd, FunD K "_law_made_code" "_law_made_code" (defArgs s__law_made_code) (defBody s__law_made_code) (defScope s__law_made_code) [] [] (He.ga K "_law_made_code") fd := T.d.def_ 51 (d := d__law_made_code) rfl
theorem Tx.f_q_some_machine_operand (T : Tx K mg) : ∃ fd, FunD K "_law_some_machine_operand" "_law_some_machine_operand" (defArgs s__law_some_machine_operand) (defBody s__law_some_machine_operand) (defScope s__law_some_machine_operand) [] [] (He.ga K "_law_some_machine_operand") fd := T.d.def_ 52 (d := d__law_some_machine_operand) rfl
theorem Tx.f_q_some_machine_value (T : Tx K mg) : ∃ fd, FunD K "_law_some_machine_value" "_law_some_machine_value" (defArgs s__law_some_machine_value) (defBody s__law_some_machine_value) (defScope s__law_some_machine_value) [] [] (He.ga K "_law_some_machine_value") fd := T.d.def_ 53 (d := d__law_some_machine_value) rfl
theorem Tx.f_q_some_machine_pair (T : Tx K mg) : ∃ fd, FunD K "_law_some_machine_pair" "_law_some_machine_pair" (defArgs s__law_some_machine_pair) (defBody s__law_some_machine_pair) (defScope s__law_some_machine_pair) [] [] (He.ga K "_law_some_machine_pair") fd := T.d.def_ 54 (d := d__law_some_machine_pair) rfl
theorem Tx.f_q_some_machine_deed (T : Tx K mg) : ∃ fd, FunD K "_law_some_machine_deed" "_law_some_machine_deed" (defArgs s__law_some_machine_deed) (defBody s__law_some_machine_deed) (defScope s__law_some_machine_deed) [] [] (He.ga K "_law_some_machine_deed") fd := T.d.def_ 55 (d := d__law_some_machine_deed) rfl
theorem Tx.f_q_some_machine_step (T : Tx K mg) : ∃ fd, FunD K "_law_some_machine_step" "_law_some_machine_step" (defArgs s__law_some_machine_step) (defBody s__law_some_machine_step) (defScope s__law_some_machine_step) [] [] (He.ga K "_law_some_machine_step") fd := T.d.def_ 56 (d := d__law_some_machine_step) rfl
theorem Tx.f_q_some_steps (T : Tx K mg) : ∃ fd, FunD K "_law_some_steps" "_law_some_steps" (defArgs s__law_some_steps) (defBody s__law_some_steps) (defScope s__law_some_steps) [] [] (He.ga K "_law_some_steps") fd := T.d.def_ 57 (d := d__law_some_steps) rfl
theorem Tx.f_q_fault (T : Tx K mg) : ∃ fd, FunD K "_law_fault" "_law_fault" (defArgs s__law_fault) (defBody s__law_fault) (defScope s__law_fault) [] [] (He.ga K "_law_fault") fd := T.d.def_ 58 (d := d__law_fault) rfl
theorem Tx.f_q_ran_right (T : Tx K mg) : ∃ fd, FunD K "_law_ran_right" "_law_ran_right" (defArgs s__law_ran_right) (defBody s__law_ran_right) (defScope s__law_ran_right) [] [] (He.ga K "_law_ran_right") fd := T.d.def_ 59 (d := d__law_ran_right) rfl
theorem Tx.f_q_equal_right (T : Tx K mg) : ∃ fd, FunD K "_law_equal_right" "_law_equal_right" (defArgs s__law_equal_right) (defBody s__law_equal_right) (defScope s__law_equal_right) [] [] (He.ga K "_law_equal_right") fd := T.d.def_ 60 (d := d__law_equal_right) rfl
theorem Tx.f_q_refused_right (T : Tx K mg) : ∃ fd, FunD K "_law_refused_right" "_law_refused_right" (defArgs s__law_refused_right) (defBody s__law_refused_right) (defScope s__law_refused_right) [] [] (He.ga K "_law_refused_right") fd := T.d.def_ 61 (d := d__law_refused_right) rfl
theorem Tx.f_law (T : Tx K mg) : ∃ fd, FunD K "law" "law" (defArgs s_law) (defBody s_law) (defScope s_law) [] [] (He.ga K "law") fd := T.d.def_ 62 (d := d_law) rfl
end
/-! a def that may be called by its name -/
structure Ca (P : Program) (w : World) (K : PySem.W.Frag) (mg : Str → Option Value) (base : Heap) (CX : CXT) (k : Nat) (x : Str) (sp : Sp) : Prop where
  ex : ∃ (f : Addr) (fd : FuncData) (ps : List Str), FnOk P w K mg base CX k f fd ps sp ∧ mg x = some (.ref f) ∧ PySem.W.keepIn K (.ref f) = true ∧ Binds K fd ps []
section
variable {P : Program} {w : World} {K : PySem.W.Frag} {mg : Str → Option Value} {base : Heap}
abbrev BindP (x qual : Str) (st : Stmt) (ps : List Str) : Prop := ∀ (kV doc pm : Value) (an : Option Addr) (cdv ct : Value) (us : List Value), us.length = ps.length →
  bindArgs (PySem.W.fnOf x qual (defArgs st) (defBody st) (defScope st) .none kV doc pm an cdv ct) ⟨us, []⟩ = pure (ps.zip us)
abbrev Body0 (P : Program) (w : World) (K : PySem.W.Frag) (mg : Str → Option Value) (base : Heap) (N : List Str) (qual : Str) (st : Stmt) (f : Addr) (k : Nat) (sp : Sp) : Prop :=
  ∀ (cdv : Value) (A : Around) (outer : List Env) (s : Shared) (H : Hp) (vs : List V) (Q : VK) (E : XK), Room k (A.deeper (envOfC qual (defScope st) s.heap.objs.size f cdv)) → sp vs H Q E →
    ∃ t, PSs (cxOf CX0 P w K mg base N qual (defScope st) f cdv A outer s H E).nox (defBody st) t ∧ t { nx := fun _ H' => Q .non H', rt := Q } (start N vs) H
theorem fn0 {x qual : Str} {st : Stmt} {f : Addr} {fd : FuncData} {N ps : List Str} {k : Nat} {sp : Sp} (F : FunD K x qual (defArgs st) (defBody st) (defScope st) [] [] f fd) (S : FnScope N ps (defScope st)) (len : ∀ vs H Q E, sp vs H Q E → vs.length = ps.length)
    (hb : Body0 P w K mg base N qual st f k sp) : FnOk P w K mg base CX0 (k + 1) f fd ps sp :=
  F.ok S len fun cdv A outer s H vs Q E hr h => let ⟨t, h1, h2⟩ := hb cdv A outer s H vs Q E hr h; ⟨t, h1.nox, h2⟩
theorem ca0 {x : Str} {st : Stmt} {f : Addr} {N ps : List Str} {k : Nat} {sp : Sp} (F : ∃ fd, FunD K x x (defArgs st) (defBody st) (defScope st) [] [] f fd) (m : mg x = some (.ref f)) (S : FnScope N ps (defScope st)) (b : BindP x x st ps) (len : ∀ vs H Q E, sp vs H Q E → vs.length = ps.length)
    (hb : Body0 P w K mg base N x st f k sp) : Ca P w K mg base CX0 (k + 1) x sp := by
  obtain ⟨fd, F⟩ := F
  exact ⟨f, fd, ps, fn0 F S len hb, m, F.kp, F.bindsN b⟩
theorem Ca.mono {CX : CXT} {j k : Nat} {x : Str} {sp : Sp} (c : Ca P w K mg base CX j x sp) (h : j ≤ k) : Ca P w K mg base CX k x sp := by
  obtain ⟨f, fd, ps, F, m, kp, b⟩ := c.ex
  exact ⟨f, fd, ps, F.mono h, m, kp, b⟩
theorem Ca.imp {CX : CXT} {k : Nat} {x : Str} {sp sp' : Sp} (c : Ca P w K mg base CX k x sp) (h : ∀ vs H Q E, sp' vs H Q E → sp vs H Q E) : Ca P w K mg base CX k x sp' := by
  obtain ⟨f, fd, ps, F, m, kp, b⟩ := c.ex
  exact ⟨f, fd, ps, F.imp h, m, kp, b⟩
end
/-- f(e, ..) -/
theorem pe_ca {X : Cx} {k j : Nat} {x : Str} {sp : Sp} {p pos : Pos} {e : Expr} {es : List Expr} {t : TA} (c : Ca X.prog X.w X.K X.mg X.base CX0 k x sp) (hr : Room j X.A) (ha : PA X (e :: es) t) (hk : k ≤ j := by decide) (hg : Gl X x := by rfl)
    (hdb : (x == ("__debug__" : Str)) = false := by decide) (he : starEach (e :: es) X.env = (false, eval e X.env) :: starEach es X.env := by rfl) (hpl : (backTo pos (starEach es X.env)).any (·.1) = false := by rfl) :
    PE X (.Call (.Name x p) (e :: es) [] pos) (tCall sp [] E0 t) := by
  obtain ⟨f, fd, ps, F, hm, kp, b⟩ := c.ex
  exact pe_call F (hr.mono hk) hg hm kp b .nil pass0 ha hdb he hpl

end K48

namespace K48
open PySem PySem.Spec PyProof.Rows L2
/-! ### the machine in plain Lean -/
inductive Opd where
  | pl (k : Key) | num (i : Int)
inductive Vl where
  | as (a : Opd) | plus (a b : Opd) | less (a b : Opd) | times (a : Opd) (k : Int)
inductive Cmp where
  | below | most | is
structure Pr where
  c : Cmp
  a : Opd
  b : Opd
inductive Deed where
  | set (t : Option Key) (v : Vl) | skip | give (o : Opd) | test (p : Pr) (b : Bool)
structure Sp1 where
  start : Int
  deed : Deed
  moves : List (Key × Key)
  fin : Int
abbrev Held := List (Key × Int)
def hv (h : Held) : List (Key × V) := h.map fun p => (p.1, V.int p.2)
def look? (h : Held) (k : Key) : Option Int := (h.find? fun p => decide (p.1 = k)).map (·.2)
def look (h : Held) (k : Key) : Int := (look? h k).getD 0
def put (h : Held) (k : Key) (i : Int) : Held := if (h.any fun p => decide (p.1 = k)) = true then h.map (fun p => if p.1 = k then (p.1, i) else p) else h ++ [(k, i)]
theorem valV_hv (h : Held) (k : Key) : valV (hv h) k = (look? h k).map V.int := by
  induction h with
  | nil => rfl
  | cons p r ih =>
    by_cases e : p.1 = k
    · simp [valV, hv, look?, e]
    · simp only [valV, hv, look?, List.map_cons, List.find?_cons, decide_eq_false e] at ih ⊢
      exact ih
theorem getD_hv (h : Held) (k : Key) : (valV (hv h) k).getD (.int 0) = .int (look h k) := by
  rw [valV_hv]
  unfold look
  cases look? h k <;> rfl
theorem putK_hv (h : Held) (k : Key) (i : Int) : putK (hv h) k (.int i) = hv (put h k i) := by
  have ea : ((hv h).any fun kv => decide (kv.1 = k)) = (h.any fun p => decide (p.1 = k)) := by
    unfold hv
    rw [List.any_map]
    rfl
  unfold putK put
  rw [ea]
  split
  · unfold hv
    rw [List.map_map, List.map_map]
    refine List.map_congr_left fun p _ => ?_
    simp only [Function.comp]
    split <;> rfl
  · unfold hv
    rw [List.map_append]
    rfl
theorem put_keys (h : Held) (k : Key) (i : Int) : (k ∈ h.map (·.1) ∧ (put h k i).map (·.1) = h.map (·.1)) ∨ (k ∉ h.map (·.1) ∧ (put h k i).map (·.1) = h.map (·.1) ++ [k]) := by
  have ea : (h.any fun p => decide (p.1 = k)) = true ↔ k ∈ h.map (·.1) := by
    rw [List.any_eq_true, List.mem_map]
    constructor
    · rintro ⟨p, hp, e⟩
      exact ⟨p, hp, of_decide_eq_true e⟩
    · rintro ⟨p, hp, e⟩
      exact ⟨p, hp, decide_eq_true e⟩
  unfold put
  by_cases c : k ∈ h.map (·.1)
  · refine .inl ⟨c, ?_⟩
    rw [if_pos (ea.mpr c), List.map_map]
    refine List.map_congr_left fun p _ => ?_
    simp only [Function.comp]
    split <;> rfl
  · refine .inr ⟨c, ?_⟩
    rw [if_neg fun q => c (ea.mp q), List.map_append]
    rfl
theorem put_nodup {h : Held} {k : Key} {i : Int} (n : (h.map (·.1)).Nodup) : ((put h k i).map (·.1)).Nodup := by
  rcases put_keys h k i with ⟨_, e⟩ | ⟨c, e⟩
  · rw [e]
    exact n
  · rw [e]
    exact List.nodup_append.mpr ⟨n, by simp, fun a ha b hb => by
      rw [List.mem_singleton.mp hb]
      rintro rfl
      exact c ha⟩
theorem put_len (h : Held) (k : Key) (i : Int) : (put h k i).length ≤ h.length + 1 := by
  unfold put
  split
  · rw [List.length_map]
    omega
  · rw [List.length_append]
    exact Nat.le_refl _
theorem mem_put {h : Held} {k : Key} {i : Int} {p : Key × Int} (hp : p ∈ put h k i) : p ∈ h ∨ p = (k, i) := by
  unfold put at hp
  split at hp
  · obtain ⟨q, hq, e⟩ := List.mem_map.mp hp
    split at e
    · rename_i c
      exact .inr (by rw [← e, c])
    · exact .inl (e ▸ hq)
  · rcases List.mem_append.mp hp with q | q
    · exact .inl q
    · exact .inr (List.mem_singleton.mp q)
def Opd.now (h : Held) : Opd → Int
  | .pl k => look h k
  | .num i => i
def Vl.now (h : Held) : Vl → Int
  | .as a => a.now h
  | .plus a b => a.now h + b.now h
  | .less a b => a.now h - b.now h
  | .times a k => a.now h * k
def Cmp.now : Cmp → Int → Int → Bool
  | .below, i, j => decide (i < j)
  | .most, i, j => decide (i ≤ j)
  | .is, i, j => decide (i = j)
def Pr.now (h : Held) (p : Pr) : Bool := p.c.now (p.a.now h) (p.b.now h)
def putAll (h : Held) (ps : List (Key × Int)) : Held := ps.foldl (fun a p => put a p.1 p.2) h
def Deed.sets (h : Held) : Deed → List (Key × Int)
  | .set (some k) v => [(k, v.now h)]
  | _ => []
def reads (h : Held) (ms : List (Key × Key)) : List (Key × Int) := ms.map fun m => (m.1, look h m.2)
def behind (s : Sp1) (h : Held) : Held := putAll h (reads h s.moves ++ s.deed.sets h)
def Vl.word : Vl → Str
  | .as _ => "as"
  | .plus _ _ => "plus"
  | .less _ _ => "less"
  | .times _ _ => "times"
def Vl.opds : Vl → List Opd
  | .as a => [a]
  | .plus a b => [a, b]
  | .less a b => [a, b]
  | .times a k => [a, .num k]
def Cmp.word : Cmp → Str
  | .below => "below"
  | .most => "most"
  | .is => "is"
def Deed.opds : Deed → List Opd
  | .set _ v => v.opds
  | .skip => []
  | .give o => [o]
  | .test p _ => [p.a, p.b]
def Opd.cell? : Opd → Option Str
  | .pl (.inr s) => some s
  | _ => none
/-- the unlike cells -/
def cells : List Opd → List Str → List Str
  | [], acc => acc
  | o :: r, acc => cells r (match o.cell? with
    | some s => if s ∈ acc then acc else acc ++ [s]
    | none => acc)
def Deed.put? : Deed → Bool
  | .set (some (.inr _)) _ => true
  | _ => false
def Sp1.count (s : Sp1) : Int := (((cells s.deed.opds []).length : Nat) : Int) + ((s.moves.length : Nat) : Int) + (if s.deed.put? = true then 1 else 0)
def Deed.gone (h : Held) : Deed → Bool
  | .test p b => p.now h == b
  | _ => true
def readyB (pt : Int) (h : Held) (s : Sp1) : Bool := decide (s.start = pt) && s.deed.gone h
def ready (ss : List Sp1) (pt : Int) (h : Held) : Option Sp1 := ss.find? (readyB pt h)
structure Run where
  point : Int
  held : Held
  turns : Int
  pieces : Int
  value : Option Int
def Deed.gives (h : Held) : Deed → Option Int
  | .give o => some (o.now h)
  | _ => none
def Run.next (r : Run) (s : Sp1) : Run := { point := s.fin, held := behind s r.held, turns := r.turns + 1, pieces := r.pieces + s.count, value := s.deed.gives r.held }
def drive (ss : List Sp1) : Nat → Run → Run
  | 0, r => r
  | n + 1, r => match r.value, ready ss r.point r.held with
    | none, some s => drive ss n (r.next s)
    | _, _ => r
/-! ### the machine's things as data -/
def kd : Key → PyData
  | .inl i => .int i
  | .inr s => .str s
def Opd.d : Opd → PyData
  | .pl k => .tuple [.str "at", kd k]
  | .num i => .int i
def Vl.d (v : Vl) : PyData := .tuple (.str v.word :: v.opds.map Opd.d)
def Pr.d (p : Pr) : PyData := .tuple [.str p.c.word, p.a.d, p.b.d]
def tgd : Option Key → PyData
  | none => .none
  | some k => kd k
def Deed.d : Deed → PyData
  | .set t v => .tuple [.str "set", tgd t, v.d]
  | .skip => .tuple [.str "skip"]
  | .give o => .tuple [.str "give", o.d]
  | .test p b => .tuple [.str "test", p.d, .bool b]
def mvd (m : Key × Key) : PyData := .tuple [kd m.1, kd m.2]
def Sp1.d (s : Sp1) : PyData := .tuple [.int s.start, s.deed.d, .tuple (s.moves.map mvd), .int s.fin]
/-! ### data in the heap -/
mutual
def Da (H : Hp) : PyData → V → Prop
  | .none, v => v = .non
  | .bool b, v => v = .bl b
  | .int i, v => v = .int i
  | .str s, v => v = .str s
  | .list ds, v => ∃ a xs, v = .ref a ∧ H a = some (.lst xs) ∧ DaL H ds xs
  | .tuple ds, v => ∃ a xs, v = .ref a ∧ H a = some (.tup xs) ∧ DaL H ds xs
  | .dict _, _ => False
def DaL (H : Hp) : List PyData → List V → Prop
  | [], xs => xs = []
  | d :: ds, xs => ∃ v vs, xs = v :: vs ∧ Da H d v ∧ DaL H ds vs
end
/-- lists and tuples stay -/
structure Kp (H H' : Hp) : Prop where
  t : ∀ a xs, H a = some (.tup xs) → H' a = some (.tup xs)
  l : ∀ a xs, H a = some (.lst xs) → H' a = some (.lst xs)
theorem Kp.refl (H : Hp) : Kp H H := ⟨fun _ _ h => h, fun _ _ h => h⟩
theorem Kp.trans {H H1 H2 : Hp} (a : Kp H H1) (b : Kp H1 H2) : Kp H H2 := ⟨fun c xs h => b.t c xs (a.t c xs h), fun c xs h => b.l c xs (a.l c xs h)⟩
theorem Kp.of {H H' : Hp} (e : Same H H') : Kp H H' := ⟨fun a xs h => e a _ h, fun a xs h => e a _ h⟩
mutual
theorem Da.kp {H H' : Hp} (e : Kp H H') : ∀ {d : PyData} {v : V}, Da H d v → Da H' d v
  | .none, _, h => by simpa only [Da] using h
  | .bool _, _, h => by simpa only [Da] using h
  | .int _, _, h => by simpa only [Da] using h
  | .str _, _, h => by simpa only [Da] using h
  | .list ds, v, h => by
    simp only [Da] at h ⊢
    obtain ⟨a, xs, h1, h2, h3⟩ := h
    exact ⟨a, xs, h1, e.l a xs h2, DaL.kp e h3⟩
  | .tuple ds, v, h => by
    simp only [Da] at h ⊢
    obtain ⟨a, xs, h1, h2, h3⟩ := h
    exact ⟨a, xs, h1, e.t a xs h2, DaL.kp e h3⟩
  | .dict _, _, h => by simp only [Da] at h
theorem DaL.kp {H H' : Hp} (e : Kp H H') : ∀ {ds : List PyData} {xs : List V}, DaL H ds xs → DaL H' ds xs
  | [], _, h => by simpa only [DaL] using h
  | d :: ds, xs, h => by
    simp only [DaL] at h ⊢
    obtain ⟨v, vs, h1, h2, h3⟩ := h
    exact ⟨v, vs, h1, Da.kp e h2, DaL.kp e h3⟩
end
mutual
theorem Da.dp {K : PySem.W.Frag} {H : Hp} : ∀ {d : PyData} {v : V}, Da H d v → Dp K H v d
  | .none, _, h => by
    simp only [Da] at h
    subst h
    exact .non
  | .bool b, _, h => by
    simp only [Da] at h
    subst h
    exact .bl b
  | .int i, _, h => by
    simp only [Da] at h
    subst h
    exact .int i
  | .str s, _, h => by
    simp only [Da] at h
    subst h
    exact .str s
  | .list ds, v, h => by
    simp only [Da] at h
    obtain ⟨a, xs, rfl, h2, h3⟩ := h
    exact .lst (SqL.of h2) (DaL.dp h3)
  | .tuple ds, v, h => by
    simp only [Da] at h
    obtain ⟨a, xs, rfl, h2, h3⟩ := h
    exact .tup (SqT.of h2) (DaL.dp h3)
  | .dict _, _, h => by simp only [Da] at h
theorem DaL.dp {K : PySem.W.Frag} {H : Hp} : ∀ {ds : List PyData} {xs : List V}, DaL H ds xs → DpAll K H xs ds
  | [], _, h => by
    simp only [DaL] at h
    subst h
    exact .nil
  | d :: ds, xs, h => by
    simp only [DaL] at h
    obtain ⟨v, vs, rfl, h2, h3⟩ := h
    exact .cons (Da.dp h2) (DaL.dp h3)
end
theorem DaL.length {H : Hp} : ∀ {ds : List PyData} {xs : List V}, DaL H ds xs → xs.length = ds.length
  | [], _, h => by
    simp only [DaL] at h
    subst h
    rfl
  | d :: ds, xs, h => by
    simp only [DaL] at h
    obtain ⟨v, vs, rfl, _, h3⟩ := h
    rw [List.length_cons, List.length_cons, DaL.length h3]
theorem DaL.get {H : Hp} : ∀ {ds : List PyData} {xs : List V} {i : Nat} {v : V}, DaL H ds xs → xs[i]? = some v → ∃ d, ds[i]? = some d ∧ Da H d v
  | [], _, i, v, h, e => by
    simp only [DaL] at h
    subst h
    simp at e
  | d :: ds, xs, i, v, h, e => by
    simp only [DaL] at h
    obtain ⟨u, vs, rfl, h2, h3⟩ := h
    cases i with
    | zero =>
      simp at e
      subst e
      exact ⟨d, by simp, h2⟩
    | succ i =>
      simp at e
      obtain ⟨d', h4, h5⟩ := DaL.get h3 e
      exact ⟨d', by simpa using h4, h5⟩
theorem DaL.snoc {H : Hp} : ∀ {ds : List PyData} {xs : List V} {d : PyData} {v : V}, DaL H ds xs → Da H d v → DaL H (ds ++ [d]) (xs ++ [v])
  | [], _, d, v, h, e => by
    simp only [DaL] at h
    subst h
    simp only [List.nil_append, DaL]
    exact ⟨v, [], rfl, e, rfl⟩
  | c :: ds, xs, d, v, h, e => by
    simp only [DaL] at h
    obtain ⟨u, vs, rfl, h2, h3⟩ := h
    simp only [List.cons_append, DaL]
    exact ⟨u, vs ++ [v], rfl, h2, DaL.snoc h3 e⟩
theorem DaL.app {H : Hp} : ∀ {ds es : List PyData} {xs ys : List V}, DaL H ds xs → DaL H es ys → DaL H (ds ++ es) (xs ++ ys)
  | [], es, _, ys, h, e => by
    simp only [DaL] at h
    subst h
    exact e
  | c :: ds, es, xs, ys, h, e => by
    simp only [DaL] at h
    obtain ⟨u, vs, rfl, h2, h3⟩ := h
    simp only [List.cons_append, DaL]
    exact ⟨u, vs ++ ys, rfl, h2, DaL.app h3 e⟩
theorem Da.key {H : Hp} {k : Key} {v : V} (h : Da H (kd k) v) : v = kV k := by
  cases k <;> simp only [kd, Da] at h <;> exact h
theorem da_key (H : Hp) (k : Key) : Da H (kd k) (kV k) := by
  cases k <;> simp only [kd, Da] <;> rfl
theorem Da.tup {H : Hp} {ds : List PyData} {v : V} : Da H (.tuple ds) v ↔ ∃ a xs, v = .ref a ∧ H a = some (.tup xs) ∧ DaL H ds xs := by simp only [Da]
theorem Da.lst {H : Hp} {ds : List PyData} {v : V} : Da H (.list ds) v ↔ ∃ a xs, v = .ref a ∧ H a = some (.lst xs) ∧ DaL H ds xs := by simp only [Da]
theorem DaL.nil {H : Hp} {xs : List V} : DaL H [] xs ↔ xs = [] := by simp only [DaL]
theorem DaL.cons {H : Hp} {d : PyData} {ds : List PyData} {xs : List V} : DaL H (d :: ds) xs ↔ ∃ v vs, xs = v :: vs ∧ Da H d v ∧ DaL H ds vs := by simp only [DaL]
theorem Da.str {H : Hp} {s : Str} {v : V} : Da H (.str s) v ↔ v = .str s := by simp only [Da]
theorem Da.int {H : Hp} {i : Int} {v : V} : Da H (.int i) v ↔ v = .int i := by simp only [Da]
theorem Da.bool {H : Hp} {b : Bool} {v : V} : Da H (.bool b) v ↔ v = .bl b := by simp only [Da]
theorem Da.none {H : Hp} {v : V} : Da H .none v ↔ v = .non := by simp only [Da]
end K48

namespace K48
open PySem PySem.Spec PyProof.Rows L2
theorem if_t {c : Bool} {A B : Prop} (hc : c = true) (h : A) : if c = true then A else B := by
  rw [if_pos hc]
  exact h
/-! ### what stays -/
/-- all that is tracked stays, but for the addresses of M -/
def Sx (M : Addr → Prop) (H H' : Hp) : Prop := ∀ b o, ¬ M b → H b = some o → H' b = some o
theorem Sx.refl (M : Addr → Prop) (H : Hp) : Sx M H H := fun _ _ _ h => h
theorem Sx.trans {M : Addr → Prop} {H H1 H2 : Hp} (a : Sx M H H1) (b : Sx M H1 H2) : Sx M H H2 := fun c o n h => b c o n (a c o n h)
theorem Sx.ofSame {M : Addr → Prop} {H H' : Hp} (e : Same H H') : Sx M H H' := fun b o _ h => e b o h
theorem Sx.same {H H' : Hp} (e : Sx (fun _ => False) H H') : Same H H' := fun b o h => e b o (fun z => z) h
theorem Sx.new {M : Addr → Prop} {H H' : Hp} {p : Addr} {o : HO} (e : Sx M H H') (h : H p = none) : Sx M H (upd H' p o) := fun b u n hb => by
  rw [upd_ne (ne_of_none hb h)]
  exact e b u n hb
theorem Sx.at {M : Addr → Prop} {H H' : Hp} {p : Addr} {o : HO} (e : Sx M H H') (h : M p) : Sx M H (upd H' p o) := fun b u n hb => by
  rw [upd_ne (fun z => n (by rw [z]; exact h))]
  exact e b u n hb
theorem same_upd {H H' : Hp} {p : Addr} {o : HO} (e : Same H H') (h : H p = none) : Same H (upd H' p o) := fun b u hb => by
  rw [upd_ne (ne_of_none hb h)]
  exact e b u hb
theorem same_new {H : Hp} {p : Addr} {o : HO} (h : H p = none) : Same H (upd H p o) := same_upd (Same.refl H) h
theorem Sx.gone {M : Addr → Prop} {H H' : Hp} {p : Addr} (e : Sx M H H') (n : ¬ M p) (h : H' p = none) : H p = none := by
  cases q : H p with
  | none => rfl
  | some o =>
    rw [e p o n q] at h
    cases h
theorem Sx.kp {M : Addr → Prop} {H H' : Hp} (e : Sx M H H') (h : ∀ b, M b → (∀ xs, H b ≠ some (.tup xs)) ∧ ∀ xs, H b ≠ some (.lst xs)) : Kp H H' :=
  ⟨fun a xs q => e a _ (fun z => (h a z).1 xs q) q, fun a xs q => e a _ (fun z => (h a z).2 xs q) q⟩
/-- a heap without what stands at D -/
def off (H : Hp) (D : Addr) : Hp := fun b => if b = D then none else H b
theorem off_ne {H : Hp} {D b : Addr} (h : b ≠ D) : off H D b = H b := if_neg h
theorem off_same {H : Hp} {D : Addr} : off H D D = none := if_pos rfl
theorem off_upd {H : Hp} {D : Addr} {o : HO} : off (upd H D o) D = off H D := by
  funext b
  by_cases h : b = D
  · rw [h, off_same, off_same]
  · rw [off_ne h, off_ne h, upd_ne h]
theorem off_sx {M : Addr → Prop} {H : Hp} {D : Addr} : Sx M (off H D) H := fun b o _ h => by
  by_cases e : b = D
  · rw [e, off_same] at h
    cases h
  · rw [off_ne e] at h
    exact h
theorem Sx.off {M : Addr → Prop} {H H' : Hp} {D : Addr} (e : Sx M H H') : Sx M (off H D) (K48.off H' D) := fun b o n h => by
  by_cases q : b = D
  · rw [q, off_same] at h
    cases h
  · rw [off_ne q] at h ⊢
    exact e b o n h
theorem Sx.offR {M : Addr → Prop} {H H' : Hp} {D : Addr} (e : Sx M H H') (h : H D = none) : Sx M H (K48.off H' D) := fun b o n q => by
  rw [off_ne (ne_of_none q h)]
  exact e b o n q
theorem off_kp {H : Hp} {D : Addr} : Kp (off H D) H := ⟨fun a xs h => off_sx (M := fun _ => False) a _ (fun z => z) h, fun a xs h => off_sx (M := fun _ => False) a _ (fun z => z) h⟩
theorem sqL_sx {K : PySem.W.Frag} {M : Addr → Prop} {H H' : Hp} {a : Addr} {xs : List V} (h : SqL K H a xs) (n : ¬ M a) (e : Sx M H H') : SqL K H' a xs := by
  rcases h with (h | ⟨o, h⟩) | h
  · exact .inl (.inl (e _ _ n h))
  · exact .inl (.inr ⟨o, e _ _ n h⟩)
  · exact .inr h
theorem sqT_sx {K : PySem.W.Frag} {M : Addr → Prop} {H H' : Hp} {a : Addr} {xs : List V} (h : SqT K H a xs) (n : ¬ M a) (e : Sx M H H') : SqT K H' a xs := by
  rcases h with (h | ⟨o, h⟩) | h
  · exact .inl (.inl (e _ _ n h))
  · exact .inl (.inr ⟨o, e _ _ n h⟩)
  · exact .inr h
/-! ### [f(x) for x in xs] -/
section
variable {K : PySem.W.Frag} {a D : Addr} {xs : List V} {j : Nat} {σ : L2.St} {H1 : Hp} {te : TE} {Qd : Hp → Prop}
/-- what the list at D holds behind i turns -/
def LcInv (M : Addr → Prop) (J : Nat → Hp → Prop) (E : Nat → V → V → Hp → Prop) (H1 : Hp) (D : Addr) (xs : List V) (i : Nat) (H : Hp) : Prop :=
  ∃ acc, H D = some (.lst acc) ∧ acc.length = i ∧ Sx M H1 H ∧ J i H ∧ ∀ (k : Nat) (x v : V), xs[k]? = some x → acc[k]? = some v → E k x v (off H D)
theorem LcInv.zero {M : Addr → Prop} {J : Nat → Hp → Prop} {E : Nat → V → V → Hp → Prop} (hD : H1 D = none) (hJ0 : J 0 H1) (hJu : ∀ i H o, J i H → J i (upd H D o)) : LcInv M J E H1 D xs 0 (upd H1 D (.lst [])) :=
  ⟨[], upd_same, rfl, (Sx.refl M H1).new hD, hJu _ _ _ hJ0, fun k x v _ h => by simp at h⟩
theorem LcInv.stepG {R : VK → Prop} {M : Addr → Prop} {J : Nat → Hp → Prop} {E : Nat → V → V → Hp → Prop} {i : Nat} {x : V} {H : Hp} (hD : H1 D = none) (hMD : ¬ M D) (hJu : ∀ i H o, J i H → J i (upd H D o)) (hE : ∀ k x v H H', Sx M H H' → E k x v H → E k x v H') (hlen : xs.length ≤ 1000)
    (hx : xs[i]? = some x) (p : LcInv M J E H1 D xs i H)
    (hs : (∃ acc, H D = some (.lst acc)) → Sx M H1 H → J i H → ∀ Q : VK, (∀ y H4, Sx M H H4 → J (i + 1) H4 → E i x y (off H4 D) → Q y H4) → R Q) :
    R fun y H4 => ∃ acc, H4 D = some (.lst acc) ∧ acc.length < sizeLine ∧ LcInv M J E H1 D xs (i + 1) (upd H4 D (.lst (acc ++ [y]))) := by
  obtain ⟨acc, hd, hl, s1, j1, e1⟩ := p
  refine hs ⟨acc, hd⟩ s1 j1 _ fun y H4 s4 j4 e4 => ?_
  have hi := (List.getElem?_eq_some_iff.mp hx).1
  refine ⟨acc, s4 _ _ hMD hd, by rw [hl, sizeLine_eq]; omega, acc ++ [y], upd_same, by simp [hl], (s1.trans s4).new hD, hJu _ _ _ j4, fun k x' v hk hv => ?_⟩
  rw [off_upd]
  by_cases q : k < acc.length
  · rw [List.getElem?_append_left q] at hv
    exact hE _ _ _ _ _ s4.off (e1 k x' v hk hv)
  · rw [List.getElem?_append_right (by omega)] at hv
    have k0 : k = acc.length := by
      rcases Nat.lt_or_ge (k - acc.length) 1 with z | z
      · omega
      · rw [List.getElem?_eq_none (by simpa using z)] at hv
        cases hv
    subst k0
    simp at hv
    subst hv
    rw [hl] at hk ⊢
    rw [hx] at hk
    cases hk
    exact e4
theorem wipe_back {x : V} : wipe ((wipe σ [j]).set j (some x)) [j] = wipe σ [j] := by
  show (((σ.set j none).set j (some x)).set j none) = σ.set j none
  rw [List.set_set, List.set_set]
theorem lc_mapL (M : Addr → Prop) (J : Nat → Hp → Prop) (E : Nat → V → V → Hp → Prop) (hx : SqL K H1 a xs) (hMa : ¬ M a) (hD : H1 D = none) (hMD : ¬ M D) (hJ0 : J 0 H1) (hJu : ∀ i H o, J i H → J i (upd H D o)) (hE : ∀ k x v H H', Sx M H H' → E k x v H → E k x v H') (hlen : xs.length ≤ 1000)
    (hs : ∀ i x H, xs[i]? = some x → (∃ acc, H D = some (.lst acc)) → Sx M H1 H → J i H → ∀ Q : VK, (∀ y H4, Sx M H H4 → J (i + 1) H4 → E i x y (off H4 D) → Q y H4) → te ((wipe σ [j]).set j (some x)) H Q)
    (hd : ∀ H acc, Sx M H1 H → J xs.length H → H D = some (.lst acc) → acc.length = xs.length → (∀ (k : Nat) (x v : V), xs[k]? = some x → acc[k]? = some v → E k x v (off H D)) → Qd H) :
    ∃ W : Nat → Nat → Hp → Prop, (∃ m, W 0 m (upd H1 D (.lst []))) ∧ ∀ i m H, W i m H →
      ((Itl K a).stop i H ∧ Qd H) ∨ ((Itl K a).go i H ∧ ∃ Nx : Hp → Prop, (∀ H', Nx H' → ∃ m', m' < m ∧ W (i + 1) m' H') ∧ ∀ x H', (Itl K a).yld i H x H' → gName j x (wipe σ [j]) H' fun σ2 H2 => wipe σ2 [j] = wipe σ [j] ∧ tYes σ2 H2 fun b H3 =>
        if b = true then te σ2 H3 fun y H4 => ∃ acc, H4 D = some (.lst acc) ∧ acc.length < sizeLine ∧ Nx (upd H4 D (.lst (acc ++ [y]))) else Nx H3) := by
  refine lc_list (K := K) (a := a) (xs := xs) (LcInv M J E H1 D xs) (LcInv.zero hD hJ0 hJu) (fun i H _ p => ?_) (fun i x H hi p => ?_) fun H p => ?_
  · obtain ⟨_, _, _, s1, _, _⟩ := p
    exact sqL_sx hx hMa s1
  · refine ⟨wipe_back, ?_⟩
    exact LcInv.stepG (R := te ((wipe σ [j]).set j (some x)) H) hD hMD hJu hE hlen hi p fun h1 h2 h3 => hs i x H hi h1 h2 h3
  · obtain ⟨acc, h1, h2, h3, h4, h5⟩ := p
    exact hd H acc h3 h4 h1 h2 h5
theorem lc_mapT (M : Addr → Prop) (J : Nat → Hp → Prop) (E : Nat → V → V → Hp → Prop) (hx : SqT K H1 a xs) (hMa : ¬ M a) (hD : H1 D = none) (hMD : ¬ M D) (hJ0 : J 0 H1) (hJu : ∀ i H o, J i H → J i (upd H D o)) (hE : ∀ k x v H H', Sx M H H' → E k x v H → E k x v H') (hlen : xs.length ≤ 1000)
    (hs : ∀ i x H, xs[i]? = some x → (∃ acc, H D = some (.lst acc)) → Sx M H1 H → J i H → ∀ Q : VK, (∀ y H4, Sx M H H4 → J (i + 1) H4 → E i x y (off H4 D) → Q y H4) → te ((wipe σ [j]).set j (some x)) H Q)
    (hd : ∀ H acc, Sx M H1 H → J xs.length H → H D = some (.lst acc) → acc.length = xs.length → (∀ (k : Nat) (x v : V), xs[k]? = some x → acc[k]? = some v → E k x v (off H D)) → Qd H) :
    ∃ W : Nat → Nat → Hp → Prop, (∃ m, W 0 m (upd H1 D (.lst []))) ∧ ∀ i m H, W i m H →
      ((Itt K a).stop i H ∧ Qd H) ∨ ((Itt K a).go i H ∧ ∃ Nx : Hp → Prop, (∀ H', Nx H' → ∃ m', m' < m ∧ W (i + 1) m' H') ∧ ∀ x H', (Itt K a).yld i H x H' → gName j x (wipe σ [j]) H' fun σ2 H2 => wipe σ2 [j] = wipe σ [j] ∧ tYes σ2 H2 fun b H3 =>
        if b = true then te σ2 H3 fun y H4 => ∃ acc, H4 D = some (.lst acc) ∧ acc.length < sizeLine ∧ Nx (upd H4 D (.lst (acc ++ [y]))) else Nx H3) := by
  refine lc_tup (K := K) (a := a) (xs := xs) (LcInv M J E H1 D xs) (LcInv.zero hD hJ0 hJu) (fun i H _ p => ?_) (fun i x H hi p => ?_) fun H p => ?_
  · obtain ⟨_, _, _, s1, _, _⟩ := p
    exact sqT_sx hx hMa s1
  · refine ⟨wipe_back, ?_⟩
    exact LcInv.stepG (R := te ((wipe σ [j]).set j (some x)) H) hD hMD hJu hE hlen hi p fun h1 h2 h3 => hs i x H hi h1 h2 h3
  · obtain ⟨acc, h1, h2, h3, h4, h5⟩ := p
    exact hd H acc h3 h4 h1 h2 h5
/-- the same for any target -/
theorem lc_mapLg {g : TG} {vs : List Nat} (M : Addr → Prop) (J : Nat → Hp → Prop) (E : Nat → V → V → Hp → Prop) (hx : SqL K H1 a xs) (hMa : ¬ M a) (hD : H1 D = none) (hMD : ¬ M D) (hJ0 : J 0 H1) (hJu : ∀ i H o, J i H → J i (upd H D o)) (hE : ∀ k x v H H', Sx M H H' → E k x v H → E k x v H') (hlen : xs.length ≤ 1000)
    (hs : ∀ i x H, xs[i]? = some x → (∃ acc, H D = some (.lst acc)) → Sx M H1 H → J i H → ∀ Q : VK, (∀ y H4, Sx M H H4 → J (i + 1) H4 → E i x y (off H4 D) → Q y H4) → g x (wipe σ vs) H fun σ2 H2 => wipe σ2 vs = wipe σ vs ∧ te σ2 H2 Q)
    (hd : ∀ H acc, Sx M H1 H → J xs.length H → H D = some (.lst acc) → acc.length = xs.length → (∀ (k : Nat) (x v : V), xs[k]? = some x → acc[k]? = some v → E k x v (off H D)) → Qd H) :
    ∃ W : Nat → Nat → Hp → Prop, (∃ m, W 0 m (upd H1 D (.lst []))) ∧ ∀ i m H, W i m H →
      ((Itl K a).stop i H ∧ Qd H) ∨ ((Itl K a).go i H ∧ ∃ Nx : Hp → Prop, (∀ H', Nx H' → ∃ m', m' < m ∧ W (i + 1) m' H') ∧ ∀ x H', (Itl K a).yld i H x H' → g x (wipe σ vs) H' fun σ2 H2 => wipe σ2 vs = wipe σ vs ∧ tYes σ2 H2 fun b H3 =>
        if b = true then te σ2 H3 fun y H4 => ∃ acc, H4 D = some (.lst acc) ∧ acc.length < sizeLine ∧ Nx (upd H4 D (.lst (acc ++ [y]))) else Nx H3) := by
  refine lc_list (K := K) (a := a) (xs := xs) (LcInv M J E H1 D xs) (LcInv.zero hD hJ0 hJu) (fun i H _ p => ?_) (fun i x H hi p => ?_) fun H p => ?_
  · obtain ⟨_, _, _, s1, _, _⟩ := p
    exact sqL_sx hx hMa s1
  · exact LcInv.stepG (R := fun Q => g x (wipe σ vs) H fun σ2 H2 => wipe σ2 vs = wipe σ vs ∧ te σ2 H2 Q) hD hMD hJu hE hlen hi p fun h1 h2 h3 Q k => hs i x H hi h1 h2 h3 Q k
  · obtain ⟨acc, h1, h2, h3, h4, h5⟩ := p
    exact hd H acc h3 h4 h1 h2 h5
theorem lc_mapTg {g : TG} {vs : List Nat} (M : Addr → Prop) (J : Nat → Hp → Prop) (E : Nat → V → V → Hp → Prop) (hx : SqT K H1 a xs) (hMa : ¬ M a) (hD : H1 D = none) (hMD : ¬ M D) (hJ0 : J 0 H1) (hJu : ∀ i H o, J i H → J i (upd H D o)) (hE : ∀ k x v H H', Sx M H H' → E k x v H → E k x v H') (hlen : xs.length ≤ 1000)
    (hs : ∀ i x H, xs[i]? = some x → (∃ acc, H D = some (.lst acc)) → Sx M H1 H → J i H → ∀ Q : VK, (∀ y H4, Sx M H H4 → J (i + 1) H4 → E i x y (off H4 D) → Q y H4) → g x (wipe σ vs) H fun σ2 H2 => wipe σ2 vs = wipe σ vs ∧ te σ2 H2 Q)
    (hd : ∀ H acc, Sx M H1 H → J xs.length H → H D = some (.lst acc) → acc.length = xs.length → (∀ (k : Nat) (x v : V), xs[k]? = some x → acc[k]? = some v → E k x v (off H D)) → Qd H) :
    ∃ W : Nat → Nat → Hp → Prop, (∃ m, W 0 m (upd H1 D (.lst []))) ∧ ∀ i m H, W i m H →
      ((Itt K a).stop i H ∧ Qd H) ∨ ((Itt K a).go i H ∧ ∃ Nx : Hp → Prop, (∀ H', Nx H' → ∃ m', m' < m ∧ W (i + 1) m' H') ∧ ∀ x H', (Itt K a).yld i H x H' → g x (wipe σ vs) H' fun σ2 H2 => wipe σ2 vs = wipe σ vs ∧ tYes σ2 H2 fun b H3 =>
        if b = true then te σ2 H3 fun y H4 => ∃ acc, H4 D = some (.lst acc) ∧ acc.length < sizeLine ∧ Nx (upd H4 D (.lst (acc ++ [y]))) else Nx H3) := by
  refine lc_tup (K := K) (a := a) (xs := xs) (LcInv M J E H1 D xs) (LcInv.zero hD hJ0 hJu) (fun i H _ p => ?_) (fun i x H hi p => ?_) fun H p => ?_
  · obtain ⟨_, _, _, s1, _, _⟩ := p
    exact sqT_sx hx hMa s1
  · exact LcInv.stepG (R := fun Q => g x (wipe σ vs) H fun σ2 H2 => wipe σ2 vs = wipe σ vs ∧ te σ2 H2 Q) hD hMD hJu hE hlen hi p fun h1 h2 h3 Q k => hs i x H hi h1 h2 h3 Q k
  · obtain ⟨acc, h1, h2, h3, h4, h5⟩ := p
    exact hd H acc h3 h4 h1 h2 h5
end
/-! ### small words -/
theorem if_f {c : Bool} {A B : Prop} (hc : c = false) (h : B) : if c = true then A else B := by
  rw [hc, if_neg Bool.false_ne_true]
  exact h
theorem if_b {c : Bool} {A B : Prop} (h1 : c = true → A) (h2 : c = false → B) : if c = true then A else B := by
  cases c with
  | true => exact if_t rfl (h1 rfl)
  | false => exact if_f rfl (h2 rfl)
theorem q_bl {Q : VK} {H : Hp} {a b : Bool} (k : Q (.bl a) H) (e : b = a) : Q (.bl b) H := e ▸ k
theorem q_int {Q : VK} {H : Hp} {a b : Int} (k : Q (.int a) H) (e : b = a) : Q (.int b) H := e ▸ k
theorem pe_tyn {X : Cx} {x : Str} (n : String) {pos : Pos} (hm : X.mg x = none) (hv : bootBuiltins x = some (.type n)) (hg : Gl X x := by rfl) (hn : x ≠ "__name__" := by decide) (hd : (x == ("__debug__" : Str)) = false := by decide) : PE X (.Name x pos) (tC (.ty n)) :=
  pe_bltn (v := .ty n) hg hm hv rfl hn hd
theorem ne_bl {b : Bool} (h : ¬ (b = true)) : b = false := by
  cases b with
  | true => exact absurd rfl h
  | false => rfl
end K48

namespace K48
open PySem PySem.Spec PyProof.Rows L2
section
variable {P : Program} {w : World} {K : PySem.W.Frag} {mg : Str → Option Value} {base : Heap}
/-! is_int, is_row -/
/-- the kinds of values that stand here -/
inductive Kd (H : Hp) : V → String → Prop
  | int (i : Int) : Kd H (.int i) "int"
  | bl (b : Bool) : Kd H (.bl b) "bool"
  | str (s : Str) : Kd H (.str s) "str"
  | non : Kd H .non "NoneType"
  | tup {a xs} : H a = some (.tup xs) → Kd H (.ref a) "tuple"
  | lst {a xs} : H a = some (.lst xs) → Kd H (.ref a) "list"
theorem Kd.kp {H H' : Hp} (e : Kp H H') {v : V} {t : String} (h : Kd H v t) : Kd H' v t := by
  cases h with
  | int i => exact .int i
  | bl b => exact .bl b
  | str s => exact .str s
  | non => exact .non
  | tup q => exact .tup (e.t _ _ q)
  | lst q => exact .lst (e.l _ _ q)
theorem Kd.ty {H : Hp} {v : V} {t : String} (h : Kd H v t) : TyX K H v (.type t) := by
  cases h with
  | int i => exact .base (.int i)
  | bl b => exact .base (.bl b)
  | str s => exact .base (.str s)
  | non => exact .base .non
  | tup e => exact .base (.tup e)
  | lst e => exact .base (.lst e)
def kinds : List String := ["int", "bool", "str", "NoneType", "tuple", "list"]
theorem Kd.mem {H : Hp} {v : V} {t : String} (h : Kd H v t) : t ∈ kinds := by
  cases h <;> simp [kinds]
def kindOf : PyData → String
  | .none => "NoneType"
  | .bool _ => "bool"
  | .int _ => "int"
  | .str _ => "str"
  | .list _ => "list"
  | .tuple _ => "tuple"
  | .dict _ => "dict"
theorem Da.kd {H : Hp} : ∀ {d : PyData} {v : V}, Da H d v → Kd H v (kindOf d)
  | .none, _, h => by rw [Da.none.mp h]; exact .non
  | .bool b, _, h => by rw [Da.bool.mp h]; exact .bl b
  | .int i, _, h => by rw [Da.int.mp h]; exact .int i
  | .str s, _, h => by rw [Da.str.mp h]; exact .str s
  | .list ds, _, h => by
    obtain ⟨a, xs, rfl, e, _⟩ := Da.lst.mp h
    exact .lst e
  | .tuple ds, _, h => by
    obtain ⟨a, xs, rfl, e, _⟩ := Da.tup.mp h
    exact .tup e
  | .dict _, _, h => by simp only [Da] at h
theorem kit_int {t : String} (h : t ∈ kinds) : PySem.W.kitOne K (.type t) (.type "int") = some (decide (t = "int" ∨ t = "bool")) := by
  simp only [kinds, List.mem_cons, List.not_mem_nil, or_false] at h
  rcases h with rfl | rfl | rfl | rfl | rfl | rfl <;> exact kit_ty (by decide +kernel)
theorem kit_bool {t : String} (h : t ∈ kinds) : PySem.W.kitOne K (.type t) (.type "bool") = some (decide (t = "bool")) := by
  simp only [kinds, List.mem_cons, List.not_mem_nil, or_false] at h
  rcases h with rfl | rfl | rfl | rfl | rfl | rfl <;> exact kit_ty (by decide +kernel)
theorem kit_str {t : String} (h : t ∈ kinds) : PySem.W.kitOne K (.type t) (.type "str") = some (decide (t = "str")) := by
  simp only [kinds, List.mem_cons, List.not_mem_nil, or_false] at h
  rcases h with rfl | rfl | rfl | rfl | rfl | rfl <;> exact kit_ty (by decide +kernel)
theorem kit_tuple {t : String} (h : t ∈ kinds) : PySem.W.kitOne K (.type t) (.type "tuple") = some (decide (t = "tuple")) := by
  simp only [kinds, List.mem_cons, List.not_mem_nil, or_false] at h
  rcases h with rfl | rfl | rfl | rfl | rfl | rfl <;> exact kit_ty (by decide +kernel)
theorem kit_list {t : String} (h : t ∈ kinds) : PySem.W.kitOne K (.type t) (.type "list") = some (decide (t = "list")) := by
  simp only [kinds, List.mem_cons, List.not_mem_nil, or_false] at h
  rcases h with rfl | rfl | rfl | rfl | rfl | rfl <;> exact kit_ty (by decide +kernel)
def spIsInt : Sp := fun vs H Q _ => ∃ (x : V) (t : String), vs = [x] ∧ Kd H x t ∧ Q (.bl (decide (t = "int"))) H
theorem sc_is_int : FnScope ["value"] ["value"] (defScope s_is_int) := ⟨rfl, rfl, rfl, by decide +kernel, rfl, by decide +kernel, by decide +kernel⟩
theorem ca_is_int (T : Tx K mg) : Ca P w K mg base CX0 1 "is_int" spIsInt := by
  refine ca0 T.f_is_int T.m_is_int sc_is_int (fun _ _ _ _ _ _ us hl => match us, hl with | [_], _ => rfl) (fun vs H Q E h => ?_) (fun cdv A outer s H vs Q E hr h => ?_)
  · obtain ⟨x, t, rfl, _⟩ := h
    rfl
  · obtain ⟨x, t, rfl, hk, k⟩ := h
    refine ⟨_, pss_one (ps_ret (pe_and (pe_callB call_isi (by rfl) T.z_isinstance (by decide +kernel) (pa_cons (pv 0) (pa_cons (pe_tyn "int" T.z_int (by decide +kernel)) pa_nil))) (pe_one (pe_not (pe_callB call_isi (by rfl) T.z_isinstance (by decide +kernel) (pa_cons (pv 0) (pa_cons (pe_tyn "bool" T.z_bool (by decide +kernel)) pa_nil))))))), ?_⟩
    refine ⟨_, rfl, x, .ty "int", _, _, _, rfl, .ty "int", hk.ty, kit_int hk.mem, _, rfl, ?_⟩
    refine ite2 (fun e => ?_) (fun e => ?_)
    · refine ⟨_, rfl, x, .ty "bool", _, _, _, rfl, .ty "bool", hk.ty, kit_bool hk.mem, _, rfl, ?_⟩
      have e' : t = "int" ∨ t = "bool" := of_decide_eq_true e
      refine q_bl k ?_
      rcases e' with rfl | rfl <;> decide
    · refine q_bl k ?_
      have e' : ¬ (t = "int" ∨ t = "bool") := fun q => e (decide_eq_true q)
      exact (decide_eq_false fun q => e' (.inl q)).symm
/-- an instance of a class whose isinstance is known -/
structure InK (K : PySem.W.Frag) (C : Addr) : Prop where
  i : C8.InsC K C
  nt : PySem.W.kitOne K (.ref C) (.type "tuple") = some false
  nl : PySem.W.kitOne K (.ref C) (.type "list") = some false
theorem insB_ok {C : Addr} (c : Cls K C) (h : insB K C = true) : InK K C := by
  obtain ⟨h1, h⟩ := Bool.and_eq_true_iff.mp h
  obtain ⟨h2, h⟩ := Bool.and_eq_true_iff.mp h
  obtain ⟨h3, h⟩ := Bool.and_eq_true_iff.mp h
  obtain ⟨h4, h⟩ := Bool.and_eq_true_iff.mp h
  obtain ⟨h5, h⟩ := Bool.and_eq_true_iff.mp h
  obtain ⟨h6, h7⟩ := Bool.and_eq_true_iff.mp h
  exact ⟨⟨c, He.eqO_ok h1, He.eqO_ok h2, of_decide_eq_true h3, of_decide_eq_true h4, of_decide_eq_true h5⟩, of_decide_eq_true h6, of_decide_eq_true h7⟩
theorem Tx.i_Step (T : Tx K mg) : InK K (He.ga K "Step") := insB_ok T.c_Step (Bool.and_eq_true_iff.mp T.ex).1
theorem Tx.i_Code (T : Tx K mg) : InK K (He.ga K "Code") := insB_ok T.c_Code (Bool.and_eq_true_iff.mp (Bool.and_eq_true_iff.mp T.ex).2).1
theorem Tx.i_Ran (T : Tx K mg) : InK K (He.ga K "Ran") := insB_ok T.c_Ran (Bool.and_eq_true_iff.mp (Bool.and_eq_true_iff.mp (Bool.and_eq_true_iff.mp T.ex).2).2).1
/-- whether a value is a row -/
inductive RowK (K : PySem.W.Frag) (H : Hp) : V → Bool → Prop
  | kd {x t} : Kd H x t → RowK K H x (decide (t = "tuple") || decide (t = "list"))
  | ins {a C dx fs} : H a = some (.ins C dx fs) → InK K C → RowK K H (.ref a) false
theorem RowK.kit {H : Hp} {x : V} {b : Bool} (h : RowK K H x b) : ∃ t, TyX K H x t ∧ PySem.W.kitAny K t [.type "tuple", .type "list"] = some b := by
  cases h with
  | kd hk =>
    rename_i t
    refine ⟨_, hk.ty, kitAny_cons (kit_tuple hk.mem) (fun e => ?_) fun e => ?_⟩
    · rw [e, Bool.false_or]
      refine kitAny_cons (kit_list hk.mem) (fun e => ?_) fun e => e
      rw [e]
      exact kitAny_nil
    · rw [e, Bool.true_or]
  | ins e c => exact ⟨_, .base (.ins e c.i.cl c.i.ha c.i.hn c.i.htk c.i.hm), kitAny_cons c.nt (fun _ => kitAny_cons c.nl (fun _ => kitAny_nil) fun z => z) fun z => z⟩
theorem RowK.same {H H' : Hp} (e : Same H H') {x : V} {b : Bool} (h : RowK K H x b) : RowK K H' x b := by
  cases h with
  | kd hk => exact .kd (hk.kp (Kp.of e))
  | ins q c => exact .ins (e _ _ q) c
def spIsRow (K : PySem.W.Frag) : Sp := fun vs H Q _ => ∃ (x : V) (b : Bool), vs = [x] ∧ RowK K H x b ∧ ∀ H', Same H H' → Q (.bl b) H'
theorem sc_is_row : FnScope ["value"] ["value"] (defScope s_is_row) := ⟨rfl, rfl, rfl, by decide +kernel, rfl, by decide +kernel, by decide +kernel⟩
theorem ca_is_row (T : Tx K mg) : Ca P w K mg base CX0 1 "is_row" (spIsRow K) := by
  refine ca0 T.f_is_row T.m_is_row sc_is_row (fun _ _ _ _ _ _ us hl => match us, hl with | [_], _ => rfl) (fun vs H Q E h => ?_) (fun cdv A outer s H vs Q E hr h => ?_)
  · obtain ⟨x, b, rfl, _⟩ := h
    rfl
  · obtain ⟨x, b, rfl, hk, k⟩ := h
    refine ⟨_, pss_one (ps_ret (pe_callB call_isiT (by rfl) T.z_isinstance (by decide +kernel) (pa_cons (pv 0) (pa_cons (pe_tup (pa_cons (pe_tyn "tuple" T.z_tuple (by decide +kernel)) (pa_cons (pe_tyn "list" T.z_list (by decide +kernel)) pa_nil))) pa_nil)))), ?_⟩
    refine ⟨_, rfl, (by show 2 ≤ sizeLine; decide), fun p hp => ?_⟩
    obtain ⟨t, h1, h2⟩ := (hk.same (same_new (o := .tup [.ty "tuple", .ty "list"]) hp)).kit
    exact ⟨x, p, _, t, _, b, rfl, upd_same, .cons (.ty _) (.cons (.ty _) .nil), h1, h2, k _ (same_new hp)⟩
/-! operand_value, value_of, holds -/
def spOperandValue : Sp := fun vs H Q _ => ∃ (i : Int) (n : V), vs = [.int i, n] ∧ Q (.int i) H
theorem sc_operand_value : FnScope ["operand", "now"] ["operand", "now"] (defScope s_operand_value) := ⟨rfl, rfl, rfl, by decide +kernel, rfl, by decide +kernel, by decide +kernel⟩
theorem ca_operand_value (T : Tx K mg) : Ca P w K mg base CX0 1 "operand_value" spOperandValue := by
  refine ca0 T.f_operand_value T.m_operand_value sc_operand_value (fun _ _ _ _ _ _ us hl => match us, hl with | [_, _], _ => rfl) (fun vs H Q E h => ?_) (fun cdv A outer s H vs Q E hr h => ?_)
  · obtain ⟨i, n, rfl, _⟩ := h
    rfl
  · obtain ⟨i, n, rfl, k⟩ := h
    refine ⟨_, pss_one (ps_ret (pe_ifExp (pt_val (pe_callB call_isi (by rfl) T.z_isinstance (by decide +kernel) (pa_cons (pv 0) (pa_cons (pe_tyn "str" T.z_str (by decide +kernel)) pa_nil)))) (pe_dget2 (hu_of hr) (pv 1) (pv 0) pe_int ⟨rfl, rfl, rfl, rfl⟩) (pv 0))), ?_⟩
    have hk : Kd H (.int i) "int" := .int i
    exact ⟨_, rfl, _, .ty "str", _, _, _, rfl, .ty "str", hk.ty, kit_str hk.mem, _, rfl, if_f (by decide) ⟨_, rfl, k⟩⟩
theorem ste (a b : Str) : decide (V.str a = V.str b) = decide (a = b) := by
  by_cases e : a = b
  · rw [e, decide_eq_true rfl, decide_eq_true rfl]
  · rw [decide_eq_false e, decide_eq_false fun q => e (V.str.inj q)]
theorem sne (a b : Str) (h : decide (a = b) = false := by decide +kernel) : decide (V.str a = V.str b) = false := (ste a b).trans h
/-- the tuple of a word and the ints -/
def TupW (H : Hp) (a : Addr) (s : Str) (is : List Int) : Prop := H a = some (.tup (.str s :: is.map V.int))
def Vl.ok : Vl → Prop
  | .times _ k => -999 ≤ k ∧ k ≤ 999
  | _ => True
def spValueOf : Sp := fun vs H Q _ => ∃ (a : Addr) (n : V) (v : Vl) (h : Held), vs = [.ref a, n] ∧ TupW H a v.word (v.opds.map (Opd.now h)) ∧ v.ok ∧ Q (.int (v.now h)) H
theorem sc_value_of : FnScope ["told", "now", "one", "other"] ["told", "now"] (defScope s_value_of) := ⟨rfl, rfl, rfl, by decide +kernel, rfl, by decide +kernel, by decide +kernel⟩
theorem ca_value_of (T : Tx K mg) : Ca P w K mg base CX0 2 "value_of" spValueOf := by
  refine ca0 T.f_value_of T.m_value_of sc_value_of (fun _ _ _ _ _ _ us hl => match us, hl with | [_, _], _ => rfl) (fun vs H Q E h => ?_) (fun cdv A outer s H vs Q E hr h => ?_)
  · obtain ⟨a, n, v, h, rfl, _⟩ := h
    rfl
  · obtain ⟨a, n, v, h, rfl, ht, hok, k⟩ := h
    have c := ca_operand_value (P := P) (w := w) (base := base) T
    refine ⟨_, pss_cons (ps_set (i := 2) sc_value_of.nd rfl (Or.inl rfl) (pe_ca c hr (pa_cons (pe_ix ix_tup (pv 0) pe_int (fun _ _ => rfl)) (pa_cons (pv 1) pa_nil))))
      (pss_cons (ps_if (pt_cmpR op_eq (pe_ix ix_tup (pv 0) pe_int (fun _ _ => rfl)) pe_str (nomark _)) (pss_one (ps_ret (pv 2))) pss_nil)
      (pss_cons (ps_set (i := 3) sc_value_of.nd rfl (Or.inl rfl) (pe_ca c hr (pa_cons (pe_ix ix_tup (pv 0) pe_int (fun _ _ => rfl)) (pa_cons (pv 1) pa_nil))))
      (pss_cons (ps_if (pt_cmpR op_eq (pe_ix ix_tup (pv 0) pe_int (fun _ _ => rfl)) pe_str (nomark _)) (pss_one (ps_ret (pe_op op_add (pv 2) (pv 3)))) pss_nil)
      (pss_one (ps_ret (pe_ifExp (pt_cmpR op_eq (pe_ix ix_tup (pv 0) pe_int (fun _ _ => rfl)) pe_str (nomark _)) (pe_op op_sub (pv 2) (pv 3)) (pe_op op_mul (pv 2) (pv 3)))))))), ?_⟩
    cases v with
    | as x =>
      refine ⟨_, rfl, a, _, _, _, rfl, rfl, SqT.of ht, rfl, n, rfl, _, n, rfl, ?_⟩
      exact ⟨_, rfl, a, _, _, _, rfl, rfl, SqT.of ht, rfl, rfl, _, rfl, if_t (decide_eq_true rfl) ⟨_, rfl, k⟩⟩
    | plus x y =>
      refine ⟨_, rfl, a, _, _, _, rfl, rfl, SqT.of ht, rfl, n, rfl, _, n, rfl, ?_⟩
      refine ⟨_, rfl, a, _, _, _, rfl, rfl, SqT.of ht, rfl, rfl, _, rfl, if_f (sne "plus" "as") ?_⟩
      refine ⟨_, rfl, a, _, _, _, rfl, rfl, SqT.of ht, rfl, n, rfl, _, n, rfl, ?_⟩
      exact ⟨_, rfl, a, _, _, _, rfl, rfl, SqT.of ht, rfl, rfl, _, rfl, if_t (decide_eq_true rfl) ⟨_, rfl, _, rfl, _, _, rfl, rfl, k⟩⟩
    | less x y =>
      refine ⟨_, rfl, a, _, _, _, rfl, rfl, SqT.of ht, rfl, n, rfl, _, n, rfl, ?_⟩
      refine ⟨_, rfl, a, _, _, _, rfl, rfl, SqT.of ht, rfl, rfl, _, rfl, if_f (sne "less" "as") ?_⟩
      refine ⟨_, rfl, a, _, _, _, rfl, rfl, SqT.of ht, rfl, n, rfl, _, n, rfl, ?_⟩
      refine ⟨_, rfl, a, _, _, _, rfl, rfl, SqT.of ht, rfl, rfl, _, rfl, if_f (sne "less" "plus") ?_⟩
      exact ⟨_, rfl, a, _, _, _, rfl, rfl, SqT.of ht, rfl, rfl, _, rfl, if_t (decide_eq_true rfl) ⟨_, rfl, _, rfl, _, _, rfl, rfl, k⟩⟩
    | times x y =>
      refine ⟨_, rfl, a, _, _, _, rfl, rfl, SqT.of ht, rfl, n, rfl, _, n, rfl, ?_⟩
      refine ⟨_, rfl, a, _, _, _, rfl, rfl, SqT.of ht, rfl, rfl, _, rfl, if_f (sne "times" "as") ?_⟩
      refine ⟨_, rfl, a, _, _, _, rfl, rfl, SqT.of ht, rfl, n, rfl, _, n, rfl, ?_⟩
      refine ⟨_, rfl, a, _, _, _, rfl, rfl, SqT.of ht, rfl, rfl, _, rfl, if_f (sne "times" "plus") ?_⟩
      refine ⟨_, rfl, a, _, _, _, rfl, rfl, SqT.of ht, rfl, rfl, _, rfl, if_f (sne "times" "less") ⟨_, rfl, _, rfl, _, _, rfl, rfl, .inr ?_, k⟩⟩
      have h2 : -999 ≤ y ∧ y ≤ 999 := hok
      show -(2 ^ 64) < y ∧ y < 2 ^ 64
      omega
def spHolds : Sp := fun vs H Q _ => ∃ (a : Addr) (n : V) (c : Cmp) (i j : Int), vs = [.ref a, n] ∧ TupW H a c.word [i, j] ∧ Q (.bl (c.now i j)) H
theorem sc_holds : FnScope ["pair", "now", "one", "other"] ["pair", "now"] (defScope s_holds) := ⟨rfl, rfl, rfl, by decide +kernel, rfl, by decide +kernel, by decide +kernel⟩
theorem ca_holds (T : Tx K mg) : Ca P w K mg base CX0 2 "holds" spHolds := by
  refine ca0 T.f_holds T.m_holds sc_holds (fun _ _ _ _ _ _ us hl => match us, hl with | [_, _], _ => rfl) (fun vs H Q E h => ?_) (fun cdv A outer s H vs Q E hr h => ?_)
  · obtain ⟨a, n, c, i, j, rfl, _⟩ := h
    rfl
  · obtain ⟨a, n, c, i, j, rfl, ht, k⟩ := h
    have co := ca_operand_value (P := P) (w := w) (base := base) T
    refine ⟨_, pss_cons (ps_par (i := 2) (j := 3) (by rfl) sc_holds.nd rfl rfl (by decide) rfl rfl (pa_cons (pe_ca co hr (pa_cons (pe_ix ix_tup (pv 0) pe_int (fun _ _ => rfl)) (pa_cons (pv 1) pa_nil))) (pa_cons (pe_ca co hr (pa_cons (pe_ix ix_tup (pv 0) pe_int (fun _ _ => rfl)) (pa_cons (pv 1) pa_nil))) pa_nil)) (by rfl))
      (pss_cons (ps_if (pt_cmpR op_eq (pe_ix ix_tup (pv 0) pe_int (fun _ _ => rfl)) pe_str (nomark _)) (pss_one (ps_ret (pe_cmpR op_eq (pv 2) (pv 3) (nomark _)))) pss_nil)
      (pss_one (ps_ret (pe_ifExp (pt_cmpR op_eq (pe_ix ix_tup (pv 0) pe_int (fun _ _ => rfl)) pe_str (nomark _)) (pe_cmpR op_lt (pv 2) (pv 3) (nomark _)) (pe_cmpR op_le (pv 2) (pv 3) (nomark _)))))), ?_⟩
    refine ⟨_, rfl, a, _, _, _, rfl, rfl, SqT.of ht, rfl, n, rfl, _, n, rfl, ?_⟩
    refine ⟨_, rfl, a, _, _, _, rfl, rfl, SqT.of ht, rfl, n, rfl, _, n, rfl, ?_⟩
    refine ⟨_, _, rfl, ?_⟩
    cases c with
    | below =>
      refine ⟨_, rfl, a, _, _, _, rfl, rfl, SqT.of ht, rfl, rfl, _, rfl, if_f (sne "below" "is") ?_⟩
      exact ⟨_, rfl, a, _, _, _, rfl, rfl, SqT.of ht, rfl, rfl, _, rfl, if_t (decide_eq_true rfl) ⟨_, rfl, _, rfl, _, _, rfl, rfl, k⟩⟩
    | most =>
      refine ⟨_, rfl, a, _, _, _, rfl, rfl, SqT.of ht, rfl, rfl, _, rfl, if_f (sne "most" "is") ?_⟩
      exact ⟨_, rfl, a, _, _, _, rfl, rfl, SqT.of ht, rfl, rfl, _, rfl, if_f (sne "most" "below") ⟨_, rfl, _, rfl, _, _, rfl, rfl, k⟩⟩
    | is =>
      refine ⟨_, rfl, a, _, _, _, rfl, rfl, SqT.of ht, rfl, rfl, _, rfl, if_t (decide_eq_true rfl) ⟨_, rfl, _, rfl, rfl, ?_⟩⟩
      refine q_bl k ?_
      by_cases e : i = j
      · rw [e, decide_eq_true rfl]
        exact (decide_eq_true rfl).symm
      · rw [decide_eq_false fun q => e (V.int.inj q)]
        exact (decide_eq_false e).symm
end
end K48

namespace K48
open PySem PySem.Spec PyProof.Rows L2
theorem cut_tail (v : V) (vs : List V) : cutV (v :: vs) (some 1) none = vs := by
  unfold cutV
  have e1 : HT.sIx (v :: vs).length 0 (some 1) = 1 := by
    refine (HT.sIx_nat _ _ 1).trans ?_
    rw [List.length_cons]
    omega
  rw [e1, HT.sIx_none]
  show List.take (vs.length + 1 - 1) vs = vs
  rw [Nat.add_sub_cancel, List.take_length]
theorem cut_head (v : V) (vs : List V) : cutV (v :: vs) none (some 1) = [v] := by
  unfold cutV
  have e1 : HT.sIx (v :: vs).length (v :: vs).length (some 1) = 1 := by
    refine (HT.sIx_nat _ _ 1).trans ?_
    rw [List.length_cons]
    omega
  rw [e1, HT.sIx_none]
  rfl
theorem cut_not_whole (v : V) (vs : List V) : ¬ (HT.sIx (v :: vs).length 0 (some 1) = 0 ∧ HT.sIx (v :: vs).length (v :: vs).length none = (v :: vs).length) := by
  rintro ⟨h, _⟩
  have e1 : HT.sIx (v :: vs).length 0 (some 1) = min 1 (vs.length + 1) := HT.sIx_nat _ _ 1
  omega
theorem cut_head_whole (v : V) (vs : List V) (h : vs ≠ []) : ¬ (HT.sIx (v :: vs).length 0 none = 0 ∧ HT.sIx (v :: vs).length (v :: vs).length (some 1) = (v :: vs).length) := by
  rintro ⟨_, h2⟩
  have e1 : HT.sIx (v :: vs).length (v :: vs).length (some 1) = min 1 (vs.length + 1) := HT.sIx_nat _ _ 1
  have l : vs.length ≠ 0 := fun z => h (List.length_eq_zero_iff.mp z)
  rw [e1, List.length_cons] at h2
  omega
theorem at0 {α : Type} (v : α) (r : List α) : atI (v :: r) 0 = some v := atI_nat (j := 0) rfl
theorem at1 {α : Type} (u v : α) (r : List α) : atI (u :: v :: r) 1 = some v := atI_nat (j := 1) rfl
theorem at2 {α : Type} (t u v : α) (r : List α) : atI (t :: u :: v :: r) 2 = some v := atI_nat (j := 2) rfl
theorem at3 {α : Type} (s t u v : α) (r : List α) : atI (s :: t :: u :: v :: r) 3 = some v := atI_nat (j := 3) rfl
section
variable {P : Program} {w : World} {K : PySem.W.Frag} {mg : Str → Option Value} {base : Heap}
/-- x[1:] of a tuple that is not empty, in a reading -/
theorem sl_tail {v : V} {vs : List V} {a : Addr} {H : Hp} {Q : VK} (h : H a = some (.tup (v :: vs))) (k : ∀ p, H p = none → Q (.ref p) (upd H p (.tup vs))) : rSlA K (.ref a) (some 1) none H Q :=
  ⟨a, _, rfl, SqT.of h, fun z => absurd z (cut_not_whole v vs), fun _ p hp => by
    rw [cut_tail]
    exact k p hp⟩
theorem sl_head {v : V} {vs : List V} {a : Addr} {H : Hp} {Q : VK} (h : H a = some (.tup (v :: vs))) (hn : vs ≠ []) (k : ∀ p, H p = none → Q (.ref p) (upd H p (.tup [v]))) : rSlA K (.ref a) none (some 1) H Q :=
  ⟨a, _, rfl, SqT.of h, fun z => absurd z (cut_head_whole v vs hn), fun _ p hp => by
    rw [cut_head]
    exact k p hp⟩
/-! operands_of -/
def spOperandsOf : Sp := fun vs H Q _ => ∃ (x : V) (d : Deed), vs = [x] ∧ Da H d.d x ∧ ∀ H' p xs, Same H H' → H' p = some (.tup xs) → DaL H' (d.opds.map Opd.d) xs → Q (.ref p) H'
theorem sc_operands_of : FnScope ["deed"] ["deed"] (defScope s_operands_of) := ⟨rfl, rfl, rfl, by decide +kernel, rfl, by decide +kernel, by decide +kernel⟩
theorem ca_operands_of (T : Tx K mg) : Ca P w K mg base CX0 1 "operands_of" spOperandsOf := by
  refine ca0 T.f_operands_of T.m_operands_of sc_operands_of (fun _ _ _ _ _ _ us hl => match us, hl with | [_], _ => rfl) (fun vs H Q E h => ?_) (fun cdv A outer s H vs Q E hr h => ?_)
  · obtain ⟨x, d, rfl, _⟩ := h
    rfl
  · obtain ⟨x, d, rfl, hd, k⟩ := h
    refine ⟨_, pss_cons (ps_if (pt_cmpR op_eq (pe_ix ix_tup (pv 0) pe_int (fun _ _ => rfl)) pe_str (nomark _)) (pss_one (ps_ret (pe_slice sl_tupA (pe_ix ix_tup (pv 0) pe_int (fun _ _ => rfl)) (po_some pe_int) po_none))) pss_nil)
      (pss_cons (ps_if (pt_cmpR op_eq (pe_ix ix_tup (pv 0) pe_int (fun _ _ => rfl)) pe_str (nomark _)) (pss_one (ps_ret (pe_slice sl_tupA (pe_ix ix_tup (pv 0) pe_int (fun _ _ => rfl)) (po_some pe_int) po_none))) pss_nil)
      (pss_one (ps_ret (pe_slice sl_tupA (pv 0) (po_some pe_int) po_none)))), ?_⟩
    cases d with
    | set t v =>
      obtain ⟨a, xs, rfl, ha, h3⟩ := Da.tup.mp hd
      obtain ⟨v1, r1, rfl, e1, h3⟩ := DaL.cons.mp h3
      obtain ⟨v2, r2, rfl, e2, h3⟩ := DaL.cons.mp h3
      obtain ⟨v3, r3, rfl, e3, h3⟩ := DaL.cons.mp h3
      obtain rfl := DaL.nil.mp h3
      obtain rfl := Da.str.mp e1
      obtain ⟨b, ys, rfl, hb, h4⟩ := Da.tup.mp e3
      obtain ⟨y1, s1, rfl, f1, h4⟩ := DaL.cons.mp h4
      refine ⟨_, rfl, a, _, _, _, rfl, rfl, SqT.of ha, rfl, rfl, _, rfl, if_t (decide_eq_true rfl) ?_⟩
      refine ⟨_, rfl, a, _, _, _, rfl, rfl, SqT.of ha, rfl, _, rfl, sl_tail hb fun p hp => ?_⟩
      exact k _ p _ (same_new hp) upd_same (h4.kp (Kp.of (same_new hp)))
    | skip =>
      obtain ⟨a, xs, rfl, ha, h3⟩ := Da.tup.mp hd
      obtain ⟨v1, r1, rfl, e1, h4⟩ := DaL.cons.mp h3
      obtain rfl := Da.str.mp e1
      refine ⟨_, rfl, a, _, _, _, rfl, rfl, SqT.of ha, at0 _ _, rfl, _, rfl, if_f (sne "skip" "set") ?_⟩
      refine ⟨_, rfl, a, _, _, _, rfl, rfl, SqT.of ha, at0 _ _, rfl, _, rfl, if_f (sne "skip" "test") ?_⟩
      refine ⟨_, rfl, _, rfl, sl_tail ha fun p hp => ?_⟩
      exact k _ p _ (same_new hp) upd_same (h4.kp (Kp.of (same_new hp)))
    | give o =>
      obtain ⟨a, xs, rfl, ha, h3⟩ := Da.tup.mp hd
      obtain ⟨v1, r1, rfl, e1, h4⟩ := DaL.cons.mp h3
      obtain rfl := Da.str.mp e1
      refine ⟨_, rfl, a, _, _, _, rfl, rfl, SqT.of ha, at0 _ _, rfl, _, rfl, if_f (sne "give" "set") ?_⟩
      refine ⟨_, rfl, a, _, _, _, rfl, rfl, SqT.of ha, at0 _ _, rfl, _, rfl, if_f (sne "give" "test") ?_⟩
      refine ⟨_, rfl, _, rfl, sl_tail ha fun p hp => ?_⟩
      exact k _ p _ (same_new hp) upd_same (h4.kp (Kp.of (same_new hp)))
    | test pr b =>
      obtain ⟨a, xs, rfl, ha, h3⟩ := Da.tup.mp hd
      obtain ⟨v1, r1, rfl, e1, h3⟩ := DaL.cons.mp h3
      obtain ⟨v2, r2, rfl, e2, h3⟩ := DaL.cons.mp h3
      obtain rfl := Da.str.mp e1
      obtain ⟨b', ys, rfl, hb, h4⟩ := Da.tup.mp e2
      obtain ⟨y1, s1, rfl, f1, h4⟩ := DaL.cons.mp h4
      refine ⟨_, rfl, a, _, _, _, rfl, rfl, SqT.of ha, at0 _ _, rfl, _, rfl, if_f (sne "test" "set") ?_⟩
      refine ⟨_, rfl, a, _, _, _, rfl, rfl, SqT.of ha, at0 _ _, rfl, _, rfl, if_t (decide_eq_true rfl) ?_⟩
      refine ⟨_, rfl, a, _, _, _, rfl, rfl, SqT.of ha, at1 _ _ _, _, rfl, sl_tail hb fun p hp => ?_⟩
      exact k _ p _ (same_new hp) upd_same (h4.kp (Kp.of (same_new hp)))
/-! operand_now -/
def isTup : Opd → Bool
  | .pl _ => true
  | .num _ => false
theorem opd_isi {o : Opd} {H : Hp} {x : V} (h : Da H o.d x) : TyX K H x (.type (kindOf o.d)) ∧ PySem.W.kitOne K (.type (kindOf o.d)) (.type "tuple") = some (isTup o) := by
  refine ⟨h.kd.ty, ?_⟩
  rw [kit_tuple h.kd.mem]
  cases o <;> rfl
def spOperandNow : Sp := fun vs H Q _ => ∃ (x : V) (o : Opd) (d : Addr) (h : Held), vs = [x, .ref d] ∧ Da H o.d x ∧ H d = some (.dK (hv h)) ∧ Q (.int (o.now h)) H
theorem sc_operand_now : FnScope ["operand", "held"] ["operand", "held"] (defScope s_operand_now) := ⟨rfl, rfl, rfl, by decide +kernel, rfl, by decide +kernel, by decide +kernel⟩
theorem ca_operand_now (T : Tx K mg) : Ca P w K mg base CX0 1 "operand_now" spOperandNow := by
  refine ca0 T.f_operand_now T.m_operand_now sc_operand_now (fun _ _ _ _ _ _ us hl => match us, hl with | [_, _], _ => rfl) (fun vs H Q E h => ?_) (fun cdv A outer s H vs Q E hr h => ?_)
  · obtain ⟨x, o, d, h, rfl, _⟩ := h
    rfl
  · obtain ⟨x, o, d, h, rfl, hd, hh, k⟩ := h
    refine ⟨_, pss_one (ps_ret (pe_ifExp (pt_val (pe_callB call_isi (by rfl) T.z_isinstance (by decide +kernel) (pa_cons (pv 0) (pa_cons (pe_tyn "tuple" T.z_tuple (by decide +kernel)) pa_nil)))) (pe_dget2 (hu_of hr) (pv 1) (pe_ix ix_tup (pv 0) pe_int (fun _ _ => rfl)) pe_int ⟨rfl, rfl, rfl, rfl⟩) (pv 0))), ?_⟩
    obtain ⟨ty, ki⟩ := opd_isi (K := K) hd
    refine ⟨_, rfl, x, .ty "tuple", _, _, _, rfl, .ty "tuple", ty, ki, _, rfl, ?_⟩
    cases o with
    | pl key =>
      obtain ⟨a, xs, rfl, ha, h3⟩ := Da.tup.mp hd
      obtain ⟨v1, r1, rfl, e1, h3⟩ := DaL.cons.mp h3
      obtain ⟨v2, r2, rfl, e2, h3⟩ := DaL.cons.mp h3
      obtain rfl := e2.key
      refine if_t rfl ⟨_, rfl, d, rfl, .inl ⟨_, .inl hh⟩, _, rfl, a, _, _, _, rfl, rfl, SqT.of ha, at1 _ _ _, _, DGet.k hh, ?_⟩
      rw [getD_hv]
      exact k
    | num i =>
      obtain rfl := Da.int.mp hd
      exact if_f rfl ⟨_, rfl, k⟩
/-! with_numbers -/
def spWithNumbers : Sp := fun vs H Q _ => ∃ (a : Addr) (s : Str) (os : List Opd) (xs : List V) (d : Addr) (h : Held), vs = [.ref a, .ref d] ∧ H a = some (.tup (.str s :: xs)) ∧ DaL H (os.map Opd.d) xs ∧ os ≠ [] ∧ os.length ≤ 100 ∧ H d = some (.dK (hv h)) ∧
  ∀ H' p, Same H H' → TupW H' p s (os.map (Opd.now h)) → Q (.ref p) H'
theorem sc_with_numbers : FnScope ["told", "held", "operand"] ["told", "held"] (defScope s_with_numbers) := ⟨rfl, rfl, rfl, by decide +kernel, rfl, by decide +kernel, by decide +kernel⟩
theorem list_of_get {xs ys : List V} (hl : xs.length = ys.length) (h : ∀ (k : Nat) (v : V), xs[k]? = some v → ys[k]? = some v) : xs = ys := by
  refine List.ext_getElem? fun k => ?_
  cases q : xs[k]? with
  | some v => exact (h k v q).symm
  | none =>
    have := List.getElem?_eq_none_iff.mp q
    exact (List.getElem?_eq_none_iff.mpr (by omega)).symm
theorem ca_with_numbers (T : Tx K mg) : Ca P w K mg base CX0 2 "with_numbers" spWithNumbers := by
  refine ca0 T.f_with_numbers T.m_with_numbers sc_with_numbers (fun _ _ _ _ _ _ us hl => match us, hl with | [_, _], _ => rfl) (fun vs H Q E h => ?_) (fun cdv A outer s H vs Q E hr h => ?_)
  · obtain ⟨a, s, os, xs, d, h, rfl, _⟩ := h
    rfl
  · obtain ⟨a, z, os, xs, d, h, rfl, ha, hx, hne, hlen, hh, k⟩ := h
    have co := ca_operand_now (P := P) (w := w) (base := base) T
    refine ⟨_, pss_one (ps_ret (pe_op op_catT (pe_slice sl_tupA (pv 0) po_none (po_some pe_int)) (pe_callTy call_tuple_of (by rfl) T.z_tuple (by decide +kernel) (pa_cons
      (pe_lc (own := [("operand", 2)]) (g := gName 2) (tt := tYes) rfl sc_with_numbers.nd (pi_tup (pe_slice sl_tupA (pv 0) (po_some pe_int) po_none)) (blkOk_by (N := ["told", "held", "operand"]) (sc := defScope s_with_numbers) (by decide +kernel)) (fun _ _ _ _ _ => pg_name (i := 2) sc_with_numbers.nd rfl (Or.inl rfl)) (fun _ _ _ _ _ => pts_nil)
        (fun _ _ _ _ _ => pe_ca co hr (pa_cons (pv 2) (pa_cons (pv 1) pa_nil)))) pa_nil)))), ?_⟩
    have lx := hx.length
    rw [List.length_map] at lx
    have hxn : xs ≠ [] := fun z => hne (List.length_eq_zero_iff.mp (by rw [← lx, z]; rfl))
    refine ⟨_, rfl, _, rfl, sl_head ha hxn fun p1 n1 => ?_⟩
    have s1 := same_new (o := .tup [.str z]) n1
    refine ⟨_, rfl, _, rfl, ?_⟩
    simp only [tNoPart]
    show rSlA K (.ref a) (some 1) none (upd H p1 (.tup [.str z])) _
    refine sl_tail (s1 _ _ ha) fun p2 n2 => ?_
    have s2 := same_upd (o := .tup xs) s1 (s1.free n2)
    refine ⟨p2, rfl, ⟨_, SqT.of upd_same⟩, fun D nD => ?_⟩
    have nD0 := s2.free nD
    have x2 : DaL (upd (upd H p1 (.tup [.str z])) p2 (.tup xs)) (os.map Opd.d) xs := hx.kp (Kp.of s2)
    refine lc_mapT (K := K) (a := p2) (xs := xs) (fun _ => False) (fun _ _ => True) (fun i _ v _ => ∃ o, os[i]? = some o ∧ v = .int (o.now h)) (SqT.of upd_same) (fun z => z) nD (fun z => z) True.intro (fun _ _ _ _ => True.intro) (fun _ _ _ _ _ _ q => q) (by omega) ?_ ?_
    · intro i x H2 hi _ e2 _ Q2 k2
      have e3 := e2.same
      have hx3 := x2.kp (Kp.of e3)
      obtain ⟨dd, hd1, hd2⟩ := hx3.get hi
      rw [List.getElem?_map] at hd1
      cases ho : os[i]? with
      | none =>
        rw [ho] at hd1
        cases hd1
      | some o =>
        rw [ho] at hd1
        obtain rfl := Option.some.inj hd1
        exact ⟨_, rfl, _, rfl, x, o, d, h, rfl, hd2, e3 _ _ (s2 _ _ hh), k2 _ _ (Sx.refl _ _) True.intro ⟨o, ho, rfl⟩⟩
    · intro H2 acc e2 _ hD hl hE
      have e3 := e2.same
      have eacc : acc = (os.map (Opd.now h)).map V.int := by
        refine list_of_get (by rw [hl, lx, List.length_map, List.length_map]) fun i v hv => ?_
        have hi : i < xs.length := by
          rw [← hl]
          exact (List.getElem?_eq_some_iff.mp hv).1
        obtain ⟨o, ho, rfl⟩ := hE i _ v (List.getElem?_eq_getElem hi) hv
        rw [List.map_map, List.getElem?_map, ho]
        rfl
      rw [eacc] at hD
      have f1 : H2 p1 = some (.tup [.str z]) := e3 _ _ (by rw [upd_ne (fun q => by rw [q, upd_same] at n2; cases n2)]; exact upd_same)
      refine ⟨D, _, rfl, .inl ⟨SqL.of hD, fun p3 n3 => ?_⟩⟩
      have s3 := same_upd (o := .tup ((os.map (Opd.now h)).map V.int)) (s2.trans e3) (((s2.trans e3)).free n3)
      have np : p1 ≠ p3 := ne_of_none f1 n3
      refine ⟨p1, p3, [.str z], _, rfl, rfl, SqT.of (by rw [upd_ne np]; exact f1), SqT.of upd_same, by simp, ?_, fun q => ?_, fun _ p4 n4 => ?_⟩
      · rw [List.length_map, List.length_map, sizeLine_eq]
        simp
        omega
      · exact absurd (List.length_eq_zero_iff.mpr q) (by rw [List.length_map, List.length_map, ← lx]; exact fun q => hxn (List.length_eq_zero_iff.mp q))
      · exact k _ p4 (same_upd s3 (s3.free n4)) upd_same
end
end K48

namespace K48
open PySem PySem.Spec PyProof.Rows L2
/-- a step's attributes -/
def stepFs (st : Int) (d m : V) (e : Int) : List (Str × V) := [("start", .int st), ("deed", d), ("moves", m), ("end", .int e)]
theorem stepFs_start {st d m e} : (stepFs st d m e).lookup ("start" : Str) = some (.int st) := by
  first | rfl | simp [stepFs, List.lookup] | decide
theorem stepFs_deed {st d m e} : (stepFs st d m e).lookup ("deed" : Str) = some d := by
  first | rfl | simp [stepFs, List.lookup] | decide
theorem stepFs_moves {st d m e} : (stepFs st d m e).lookup ("moves" : Str) = some m := by
  first | rfl | simp [stepFs, List.lookup] | decide
theorem stepFs_end {st d m e} : (stepFs st d m e).lookup ("end" : Str) = some (.int e) := by
  first | rfl | simp [stepFs, List.lookup] | decide
structure Sp1.ok (s : Sp1) : Prop where
  v : ∀ t v, s.deed = .set t v → v.ok
  m : s.moves.length ≤ 100
/-- a Step stands at a -/
def StepAt (C : Addr) (H : Hp) (a : Addr) (s : Sp1) : Prop := ∃ dx d m, H a = some (.ins C dx (stepFs s.start d m s.fin)) ∧ Da H s.deed.d d ∧ Da H (.tuple (s.moves.map mvd)) m
theorem StepAt.same {C : Addr} {M : Addr → Prop} {H H' : Hp} (e : Sx M H H') (kp : Kp H H') {a : Addr} {s : Sp1} (n : ¬ M a) (h : StepAt C H a s) : StepAt C H' a s := by
  obtain ⟨dx, d, m, h1, h2, h3⟩ := h
  exact ⟨dx, d, m, e _ _ n h1, h2.kp kp, h3.kp kp⟩
section
variable {P : Program} {w : World} {K : PySem.W.Frag} {mg : Str → Option Value} {base : Heap}
theorem vl_opds (v : Vl) : v.opds ≠ [] ∧ v.opds.length ≤ 100 := by
  cases v <;> exact ⟨by simp [Vl.opds], by simp [Vl.opds]⟩
def spValueNow : Sp := fun vs H Q _ => ∃ (x : V) (v : Vl) (d : Addr) (h : Held), vs = [x, .ref d] ∧ Da H v.d x ∧ v.ok ∧ H d = some (.dK (hv h)) ∧ ∀ H', Same H H' → Q (.int (v.now h)) H'
theorem sc_value_now : FnScope ["told", "held"] ["told", "held"] (defScope s_value_now) := ⟨rfl, rfl, rfl, by decide +kernel, rfl, by decide +kernel, by decide +kernel⟩
theorem ca_value_now (T : Tx K mg) : Ca P w K mg base CX0 3 "value_now" spValueNow := by
  refine ca0 T.f_value_now T.m_value_now sc_value_now (fun _ _ _ _ _ _ us hl => match us, hl with | [_, _], _ => rfl) (fun vs H Q E h => ?_) (fun cdv A outer s H vs Q E hr h => ?_)
  · obtain ⟨x, v, d, h, rfl, _⟩ := h
    rfl
  · obtain ⟨x, v, d, h, rfl, hd, hok, hh, k⟩ := h
    have c1 := ca_with_numbers (P := P) (w := w) (base := base) T
    have c2 := ca_value_of (P := P) (w := w) (base := base) T
    refine ⟨_, pss_one (ps_ret (pe_ca c2 hr (pa_cons (pe_ca c1 hr (pa_cons (pv 0) (pa_cons (pv 1) pa_nil))) (pa_cons pe_dnewK pa_nil)))), ?_⟩
    obtain ⟨a, xs, rfl, ha, h3⟩ := Da.tup.mp hd
    obtain ⟨v1, r1, rfl, e1, h4⟩ := DaL.cons.mp h3
    obtain rfl := Da.str.mp e1
    refine ⟨_, rfl, _, rfl, a, v.word, v.opds, r1, d, h, rfl, ha, h4, (vl_opds v).1, (vl_opds v).2, hh, fun H1 p s1 t1 => ?_⟩
    intro q nq
    have n : q ≠ p := fun z => by
      rw [z, show H1 p = _ from t1] at nq
      cases nq
    exact ⟨p, .ref q, v, h, rfl, by unfold TupW; rw [upd_ne n.symm]; exact t1, hok, k _ (same_upd s1 (s1.free nq))⟩
def spHoldsNow : Sp := fun vs H Q _ => ∃ (x : V) (p : Pr) (d : Addr) (h : Held), vs = [x, .ref d] ∧ Da H p.d x ∧ H d = some (.dK (hv h)) ∧ ∀ H', Same H H' → Q (.bl (p.now h)) H'
theorem sc_holds_now : FnScope ["pair", "held"] ["pair", "held"] (defScope s_holds_now) := ⟨rfl, rfl, rfl, by decide +kernel, rfl, by decide +kernel, by decide +kernel⟩
theorem ca_holds_now (T : Tx K mg) : Ca P w K mg base CX0 3 "holds_now" spHoldsNow := by
  refine ca0 T.f_holds_now T.m_holds_now sc_holds_now (fun _ _ _ _ _ _ us hl => match us, hl with | [_, _], _ => rfl) (fun vs H Q E h => ?_) (fun cdv A outer s H vs Q E hr h => ?_)
  · obtain ⟨x, p, d, h, rfl, _⟩ := h
    rfl
  · obtain ⟨x, v, d, h, rfl, hd, hh, k⟩ := h
    have c1 := ca_with_numbers (P := P) (w := w) (base := base) T
    have c2 := ca_holds (P := P) (w := w) (base := base) T
    refine ⟨_, pss_one (ps_ret (pe_ca c2 hr (pa_cons (pe_ca c1 hr (pa_cons (pv 0) (pa_cons (pv 1) pa_nil))) (pa_cons pe_dnewK pa_nil)))), ?_⟩
    obtain ⟨a, xs, rfl, ha, h3⟩ := Da.tup.mp hd
    obtain ⟨v1, r1, rfl, e1, h4⟩ := DaL.cons.mp h3
    obtain rfl := Da.str.mp e1
    refine ⟨_, rfl, _, rfl, a, v.c.word, [v.a, v.b], r1, d, h, rfl, ha, h4, by simp, by simp, hh, fun H1 p s1 t1 => ?_⟩
    intro q nq
    have n : q ≠ p := fun z => by
      rw [z, show H1 p = _ from t1] at nq
      cases nq
    exact ⟨p, .ref q, v.c, _, _, rfl, by unfold TupW; rw [upd_ne n.symm]; exact t1, k _ (same_upd s1 (s1.free nq))⟩
def spIsGone : Addr → Sp := fun C vs H Q _ => ∃ (a d : Addr) (s : Sp1) (h : Held), vs = [.ref a, .ref d] ∧ StepAt C H a s ∧ H d = some (.dK (hv h)) ∧ ∀ H', Same H H' → Q (.bl (s.deed.gone h)) H'
theorem sc_is_gone : FnScope ["step", "held"] ["step", "held"] (defScope s_is_gone) := ⟨rfl, rfl, rfl, by decide +kernel, rfl, by decide +kernel, by decide +kernel⟩
theorem ca_is_gone (T : Tx K mg) : Ca P w K mg base CX0 4 "is_gone" (spIsGone (He.ga K "Step")) := by
  refine ca0 T.f_is_gone T.m_is_gone sc_is_gone (fun _ _ _ _ _ _ us hl => match us, hl with | [_, _], _ => rfl) (fun vs H Q E h => ?_) (fun cdv A outer s H vs Q E hr h => ?_)
  · obtain ⟨a, d, s, h, rfl, _⟩ := h
    rfl
  · obtain ⟨a, d, z, h, rfl, ⟨dx, dv, mv, hs, hd, hm⟩, hh, k⟩ := h
    have c1 := ca_holds_now (P := P) (w := w) (base := base) T
    refine ⟨_, pss_one (ps_ret (pe_or (pe_cmpR op_ne (pe_ix ix_tup (pe_fld (pv 0) rfl) pe_int (fun _ _ => rfl)) pe_str (nomark _)) (pe_one (pe_cmpR op_eq (pe_ca c1 hr (pa_cons (pe_ix ix_tup (pe_fld (pv 0) rfl) pe_int (fun _ _ => rfl)) (pa_cons (pv 1) pa_nil))) (pe_ix ix_tup (pe_fld (pv 0) rfl) pe_int (fun _ _ => rfl)) (nomark _))))), ?_⟩
    obtain ⟨sst, sd, sm, sf⟩ := z
    cases sd with
    | set t v =>
      obtain ⟨b, xs, rfl, hb, h3⟩ := Da.tup.mp hd
      obtain ⟨v1, r1, rfl, e1, h4⟩ := DaL.cons.mp h3
      obtain rfl := Da.str.mp e1
      refine ⟨_, rfl, a, _, dx, _, _, rfl, hs, T.c_Step, T.n_Step_deed, stepFs_deed, b, _, _, _, rfl, rfl, SqT.of hb, at0 _ _, rfl, _, rfl, ?_⟩
      exact if_t (by rw [sne "set" "test"] <;> rfl) (k _ (Same.refl H))
    | skip =>
      obtain ⟨b, xs, rfl, hb, h3⟩ := Da.tup.mp hd
      obtain ⟨v1, r1, rfl, e1, h4⟩ := DaL.cons.mp h3
      obtain rfl := Da.str.mp e1
      refine ⟨_, rfl, a, _, dx, _, _, rfl, hs, T.c_Step, T.n_Step_deed, stepFs_deed, b, _, _, _, rfl, rfl, SqT.of hb, at0 _ _, rfl, _, rfl, ?_⟩
      exact if_t (by rw [sne "skip" "test"] <;> rfl) (k _ (Same.refl H))
    | give o =>
      obtain ⟨b, xs, rfl, hb, h3⟩ := Da.tup.mp hd
      obtain ⟨v1, r1, rfl, e1, h4⟩ := DaL.cons.mp h3
      obtain rfl := Da.str.mp e1
      refine ⟨_, rfl, a, _, dx, _, _, rfl, hs, T.c_Step, T.n_Step_deed, stepFs_deed, b, _, _, _, rfl, rfl, SqT.of hb, at0 _ _, rfl, _, rfl, ?_⟩
      exact if_t (by rw [sne "give" "test"] <;> rfl) (k _ (Same.refl H))
    | test pr bb =>
      obtain ⟨b, xs, rfl, hb, h3⟩ := Da.tup.mp hd
      obtain ⟨v1, r1, rfl, e1, h4⟩ := DaL.cons.mp h3
      obtain rfl := Da.str.mp e1
      obtain ⟨v2, r2, rfl, e2, h5⟩ := DaL.cons.mp h4
      obtain ⟨v3, r3, rfl, e3, h6⟩ := DaL.cons.mp h5
      obtain rfl := Da.bool.mp e3
      refine ⟨_, rfl, a, _, dx, _, _, rfl, hs, T.c_Step, T.n_Step_deed, stepFs_deed, b, _, _, _, rfl, rfl, SqT.of hb, at0 _ _, rfl, _, rfl, ?_⟩
      refine if_f (by rw [decide_eq_true rfl] <;> rfl) ?_
      refine ⟨_, rfl, a, _, dx, _, _, rfl, hs, T.c_Step, T.n_Step_deed, stepFs_deed, b, _, _, _, rfl, rfl, SqT.of hb, at1 _ _ _, _, rfl, v2, pr, d, h, rfl, e2, hh, fun H1 s1 => ?_⟩
      refine ⟨_, rfl, a, _, dx, _, _, rfl, s1 _ _ hs, T.c_Step, T.n_Step_deed, stepFs_deed, b, _, _, _, rfl, rfl, SqT.of (s1 _ _ hb), at2 _ _ _ _, rfl, ?_⟩
      refine q_bl (k _ s1) ?_
      show decide (V.bl (pr.now h) = V.bl bb) = (pr.now h == bb)
      cases pr.now h <;> cases bb <;> decide
end
end K48

namespace K48
open PySem PySem.Spec PyProof.Rows L2
/-- refs to tuples of a place and an int -/
structure Prs2 (H : Hp) (acc : List V) (ps : List (Key × Int)) : Prop where
  l : acc.length = ps.length
  g : ∀ (i : Nat) (p : Key × Int), ps[i]? = some p → ∃ t, acc[i]? = some (.ref t) ∧ H t = some (.tup [kV p.1, .int p.2])
theorem Prs2.kp {H H' : Hp} (e : Kp H H') {acc : List V} {ps : List (Key × Int)} (h : Prs2 H acc ps) : Prs2 H' acc ps := ⟨h.l, fun i p q => let ⟨t, h1, h2⟩ := h.g i p q; ⟨t, h1, e.t _ _ h2⟩⟩
theorem Prs2.snoc {H : Hp} {acc : List V} {ps : List (Key × Int)} {t : Addr} {p : Key × Int} (h : Prs2 H acc ps) (ht : H t = some (.tup [kV p.1, .int p.2])) : Prs2 H (acc ++ [.ref t]) (ps ++ [p]) := by
  refine ⟨by rw [List.length_append, List.length_append, h.l]; rfl, fun i q hq => ?_⟩
  by_cases c : i < ps.length
  · rw [List.getElem?_append_left c] at hq
    rw [List.getElem?_append_left (by rw [h.l]; exact c)]
    exact h.g i q hq
  · rw [List.getElem?_append_right (by omega)] at hq
    rw [List.getElem?_append_right (by rw [h.l]; omega), h.l]
    cases z : i - ps.length with
    | zero =>
      rw [z] at hq
      cases hq
      exact ⟨t, rfl, ht⟩
    | succ n =>
      rw [z] at hq
      simp at hq
theorem mv_get {H : Hp} {xs : List V} {ms : List (Key × Key)} (h : DaL H (ms.map mvd) xs) {i : Nat} {x : V} (hi : xs[i]? = some x) : ∃ m t, ms[i]? = some m ∧ x = .ref t ∧ H t = some (.tup [kV m.1, kV m.2]) := by
  obtain ⟨d, h1, h2⟩ := h.get hi
  rw [List.getElem?_map] at h1
  cases q : ms[i]? with
  | none =>
    rw [q] at h1
    cases h1
  | some m =>
    rw [q] at h1
    obtain rfl := Option.some.inj h1
    obtain ⟨t, ys, rfl, ht, h3⟩ := Da.tup.mp h2
    obtain ⟨v1, r1, rfl, e1, h4⟩ := DaL.cons.mp h3
    obtain ⟨v2, r2, rfl, e2, h5⟩ := DaL.cons.mp h4
    obtain rfl := DaL.nil.mp h5
    obtain rfl := e1.key
    obtain rfl := e2.key
    exact ⟨m, t, rfl, rfl, ht⟩
theorem putAll_len : ∀ (ps : List (Key × Int)) (h : Held), (putAll h ps).length ≤ h.length + ps.length
  | [], h => Nat.le_refl _
  | p :: r, h => by
    have h1 := putAll_len r (put h p.1 p.2)
    have h2 := put_len h p.1 p.2
    have e : putAll h (p :: r) = putAll (put h p.1 p.2) r := rfl
    rw [e, List.length_cons]
    omega
theorem putAll_take {ps : List (Key × Int)} {i : Nat} {p : Key × Int} (h : Held) (hi : ps[i]? = some p) : putAll h (ps.take (i + 1)) = put (putAll h (ps.take i)) p.1 p.2 := by
  have e : ps.take (i + 1) = ps.take i ++ [p] := by
    rw [List.take_add_one, hi]
    rfl
  unfold putAll
  rw [e, List.foldl_append]
  rfl
section
variable {P : Program} {w : World} {K : PySem.W.Frag} {mg : Str → Option Value} {base : Heap}
def spDoStep (C : Addr) : Sp := fun vs H Q _ => ∃ (a d : Addr) (s : Sp1) (h : Held), vs = [.ref a, .ref d] ∧ StepAt C H a s ∧ s.ok ∧ H d = some (.dK (hv h)) ∧ h.length ≤ 100000 ∧ ∀ H', Sx (· = d) H H' → H' d = some (.dK (hv (behind s h))) → Q .non H'
abbrev nDo : List Str := ["step", "held", "read", "place", "number", "to", "source"]
theorem sc_do_step : FnScope nDo ["step", "held"] (defScope s_do_step) := ⟨rfl, rfl, rfl, by decide +kernel, rfl, by decide +kernel, by decide +kernel⟩
theorem ca_do_step (T : Tx K mg) : Ca P w K mg base CX0 4 "do_step" (spDoStep (He.ga K "Step")) := by
  refine ca0 T.f_do_step T.m_do_step sc_do_step (fun _ _ _ _ _ _ us hl => match us, hl with | [_, _], _ => rfl) (fun vs H Q E h => ?_) (fun cdv A outer s H vs Q E hr h => ?_)
  · obtain ⟨a, d, s, h, rfl, _⟩ := h
    rfl
  · obtain ⟨a, d, z, h, rfl, ⟨dx, dv, mv, hs, hd, hm⟩, hok, hh, hlen, k⟩ := h
    have c1 := ca_value_now (P := P) (w := w) (base := base) T
    refine ⟨_, pss_cons (ps_setLc (i := 2) (own := [("to", 5), ("source", 6)]) (g := gTup K 2 (gCons (gName 5) (gCons (gName 6) gNil))) (tt := tYes) rfl sc_do_step.nd rfl rfl (sw_true rfl rfl rfl (by decide +kernel)) (pi_tup (pe_fld (pv 0) rfl)) (blkOk_by (N := nDo) (sc := defScope s_do_step) (by decide +kernel))
        (fun _ _ _ _ _ => pg_tup rfl (pgs_cons (pg_name (i := 5) sc_do_step.nd rfl (Or.inl rfl)) (pgs_cons (pg_name (i := 6) sc_do_step.nd rfl (Or.inl rfl)) pgs_nil))) (fun _ _ _ _ _ => pts_nil)
        (fun _ _ _ _ _ => pe_tup (pa_cons (pv 5) (pa_cons (pe_dget2 (hu_of hr) (pv 1) (pv 6) pe_int ⟨rfl, rfl, rfl, rfl⟩) pa_nil))))
      (C8.pss_cut (ps_if (PW.pt (pw_and (pt_cmpR op_eq (pe_ix ix_tup (pe_fld (pv 0) rfl) pe_int (fun _ _ => rfl)) pe_str (nomark _)) (pw_and1 (pt_cmpR op_notN (pe_ix ix_tup (pe_fld (pv 0) rfl) pe_int (fun _ _ => rfl)) pe_non (nomark _)))))
        (pss_one (ps_expr (pe_bm PySem.F.plainAttrs_list PySem.F.slot_list_append PySem.F.type_list_append mt_append (pv 2) (pa_cons (pe_tup (pa_cons (pe_ix ix_tup (pe_fld (pv 0) rfl) pe_int (fun _ _ => rfl)) (pa_cons (pe_ca c1 hr (pa_cons (pe_ix ix_tup (pe_fld (pv 0) rfl) pe_int (fun _ _ => rfl)) (pa_cons (pv 1) pa_nil))) pa_nil))) pa_nil)))) pss_nil)
      (pss_one (ps_for PassesOwn.never rfl (pi_list (pv 2)) (pg_tup (by rfl) (pgs_cons (pg_name (i := 3) sc_do_step.nd rfl (.inl rfl)) (pgs_cons (pg_name (i := 4) sc_do_step.nd rfl (.inl rfl)) pgs_nil))) (pss_one (ps_dput (hu_of hr) (pv 1) (pv 3) (pv 4) rfl))))), ?_⟩
    obtain ⟨ma, ms, rfl, hma, hms⟩ := Da.tup.mp hm
    have lms := hms.length
    rw [List.length_map] at lms
    refine ⟨_, rfl, a, _, dx, _, _, rfl, hs, T.c_Step, T.n_Step_moves, stepFs_moves, ma, rfl, ⟨_, SqT.of hma⟩, fun D nD => ?_⟩
    refine lc_mapTg (K := K) (a := ma) (xs := ms) (fun _ => False) (fun _ _ => True) (fun i _ v H2 => ∃ m t, z.moves[i]? = some m ∧ v = .ref t ∧ H2 t = some (.tup [kV m.1, .int (look h m.2)])) (SqT.of hma) (fun z => z) nD (fun z => z) True.intro (fun _ _ _ _ => True.intro)
      (fun _ _ _ _ _ e ⟨m, t, q1, q2, q3⟩ => ⟨m, t, q1, q2, e _ _ (fun z => z) q3⟩) (by have := hok.m; omega) ?_ ?_
    · intro i x H2 hi ⟨acc0, hacc⟩ e2 _ Q2 k2
      have e3 := e2.same
      obtain ⟨m, t, hmi, rfl, ht⟩ := mv_get (hms.kp (Kp.of e3)) hi
      refine ⟨t, _, rfl, SqT.of ht, rfl, _, _, rfl, _, _, rfl, rfl, rfl, _, rfl, _, rfl, d, rfl, .inl ⟨_, .inl (e3 _ _ hh)⟩, _, rfl, _, DGet.k (e3 _ _ hh), (by show 2 ≤ sizeLine; decide), fun q nq => ?_⟩
      rw [getD_hv]
      exact k2 _ _ ((Sx.refl _ H2).new nq) True.intro ⟨m, q, hmi, rfl, by rw [off_ne (ne_of_none hacc nq).symm]; exact upd_same⟩
    · intro H2 acc e2 _ hD hl hE
      have s2 := e2.same
      have P2 : Prs2 H2 acc (reads h z.moves) := by
        unfold reads
        refine ⟨by rw [hl, List.length_map]; exact lms, fun i p hp => ?_⟩
        rw [List.getElem?_map] at hp
        cases q : z.moves[i]? with
        | none =>
          rw [q] at hp
          cases hp
        | some m =>
          rw [q] at hp
          obtain rfl := Option.some.inj hp
          have hi : i < ms.length := by
            rw [lms]
            exact (List.getElem?_eq_some_iff.mp q).1
          have hi2 : i < acc.length := by rw [hl]; exact hi
          obtain ⟨m', t, h1, h2, h3⟩ := hE i _ _ (List.getElem?_eq_getElem hi) (List.getElem?_eq_getElem hi2)
          rw [q] at h1
          cases h1
          exact ⟨t, by rw [List.getElem?_eq_getElem hi2, h2], off_kp.t _ _ h3⟩
      have lacc : acc.length ≤ 100 := by rw [hl, lms]; exact hok.m
      have hD0 : H D = none := nD
      refine ⟨fun σ' H' => σ' = [some (.ref a), some (.ref d), some (.ref D), none, none, none, none] ∧ Same H H' ∧ ∃ acc', H' D = some (.lst acc') ∧ Prs2 H' acc' (reads h z.moves ++ z.deed.sets h), ?_, ?_⟩
      · obtain ⟨sst, sd, sm, sf⟩ := z
        cases sd with
        | set t v =>
          obtain ⟨b, xs, rfl, hb, h3⟩ := Da.tup.mp hd
          obtain ⟨v1, r1, rfl, e1, h4⟩ := DaL.cons.mp h3
          obtain rfl := Da.str.mp e1
          obtain ⟨v2, r2, rfl, e4, h5⟩ := DaL.cons.mp h4
          obtain ⟨v3, r3, rfl, e5, h6⟩ := DaL.cons.mp h5
          refine ⟨_, rfl, a, _, dx, _, _, rfl, s2 _ _ hs, T.c_Step, T.n_Step_deed, stepFs_deed, b, _, _, _, rfl, rfl, SqT.of (s2 _ _ hb), at0 _ _, rfl, _, rfl, if_t (decide_eq_true rfl) ?_⟩
          refine ⟨_, rfl, a, _, dx, _, _, rfl, s2 _ _ hs, T.c_Step, T.n_Step_deed, stepFs_deed, b, _, _, _, rfl, rfl, SqT.of (s2 _ _ hb), at1 _ _ _, rfl, _, rfl, ?_⟩
          cases t with
          | none =>
            obtain rfl := Da.none.mp e4
            refine if_f rfl ⟨rfl, s2, acc, hD, ?_⟩
            show Prs2 H2 acc (reads h sm ++ [])
            rw [List.append_nil]
            exact P2
          | some key =>
            obtain rfl := Da.key (k := key) e4
            refine if_t (by cases key <;> rfl) ?_
            refine ⟨_, rfl, .inl ⟨rfl, _, SqL.of hD⟩, ?_⟩
            refine ⟨_, rfl, a, _, dx, _, _, rfl, s2 _ _ hs, T.c_Step, T.n_Step_deed, stepFs_deed, b, _, _, _, rfl, rfl, SqT.of (s2 _ _ hb), at1 _ _ _, ?_⟩
            refine ⟨_, rfl, a, _, dx, _, _, rfl, s2 _ _ hs, T.c_Step, T.n_Step_deed, stepFs_deed, b, _, _, _, rfl, rfl, SqT.of (s2 _ _ hb), at2 _ _ _ _, ?_⟩
            refine ⟨_, rfl, v3, v, d, h, rfl, e5.kp (Kp.of s2), hok.v _ _ rfl, s2 _ _ hh, fun H3 s3 => ?_⟩
            refine ⟨(by show 2 ≤ sizeLine; decide), fun t nt => ?_⟩
            have nDt : D ≠ t := ne_of_none (s3 _ _ hD) nt
            refine ⟨D, acc, _, rfl, rfl, by rw [upd_ne nDt]; exact s3 _ _ hD, by rw [sizeLine_eq]; omega, rfl, ?_, _, upd_same, ?_⟩
            · exact same_upd (same_upd (s2.trans s3) ((s2.trans s3).free nt)) hD0
            · have P3 : Prs2 H3 acc (reads h sm) := P2.kp (Kp.of s3)
              have ntD : t ≠ D := nDt.symm
              refine Prs2.snoc (p := (key, v.now h)) ⟨P3.l, fun i p hp => ?_⟩ (by rw [upd_ne ntD]; exact upd_same)
              obtain ⟨u, g1, g2⟩ := P3.g i p hp
              refine ⟨u, g1, ?_⟩
              rw [upd_ne (ne_of g2 (s3 _ _ hD) (by intro q; cases q)), upd_ne (ne_of_none g2 nt)]
              exact g2
        | skip =>
          obtain ⟨b, xs, rfl, hb, h3⟩ := Da.tup.mp hd
          obtain ⟨v1, r1, rfl, e1, h4⟩ := DaL.cons.mp h3
          obtain rfl := Da.str.mp e1
          refine ⟨_, rfl, a, _, dx, _, _, rfl, s2 _ _ hs, T.c_Step, T.n_Step_deed, stepFs_deed, b, _, _, _, rfl, rfl, SqT.of (s2 _ _ hb), at0 _ _, rfl, _, rfl, if_f (sne "skip" "set") ?_⟩
          refine if_f rfl ⟨rfl, s2, acc, hD, ?_⟩
          show Prs2 H2 acc (reads h sm ++ [])
          rw [List.append_nil]
          exact P2
        | give o =>
          obtain ⟨b, xs, rfl, hb, h3⟩ := Da.tup.mp hd
          obtain ⟨v1, r1, rfl, e1, h4⟩ := DaL.cons.mp h3
          obtain rfl := Da.str.mp e1
          refine ⟨_, rfl, a, _, dx, _, _, rfl, s2 _ _ hs, T.c_Step, T.n_Step_deed, stepFs_deed, b, _, _, _, rfl, rfl, SqT.of (s2 _ _ hb), at0 _ _, rfl, _, rfl, if_f (sne "give" "set") ?_⟩
          refine if_f rfl ⟨rfl, s2, acc, hD, ?_⟩
          show Prs2 H2 acc (reads h sm ++ [])
          rw [List.append_nil]
          exact P2
        | test pr bb =>
          obtain ⟨b, xs, rfl, hb, h3⟩ := Da.tup.mp hd
          obtain ⟨v1, r1, rfl, e1, h4⟩ := DaL.cons.mp h3
          obtain rfl := Da.str.mp e1
          refine ⟨_, rfl, a, _, dx, _, _, rfl, s2 _ _ hs, T.c_Step, T.n_Step_deed, stepFs_deed, b, _, _, _, rfl, rfl, SqT.of (s2 _ _ hb), at0 _ _, rfl, _, rfl, if_f (sne "test" "set") ?_⟩
          refine if_f rfl ⟨rfl, s2, acc, hD, ?_⟩
          show Prs2 H2 acc (reads h sm ++ [])
          rw [List.append_nil]
          exact P2
      · rintro σ' H' ⟨rfl, s5, acc', hD', P5⟩
        have lP := P5.l
        have lS : (z.deed.sets h).length ≤ 1 := by
          cases z.deed with
          | set t v => cases t <;> simp [Deed.sets]
          | _ => simp [Deed.sets]
        have lR : (reads h z.moves).length = z.moves.length := by
          unfold reads
          rw [List.length_map]
        rw [List.length_append] at lP
        have lA : acc'.length ≤ 101 := by
          have := hok.m
          omega
        have dD : d ≠ D := ne_of_none hh hD0
        refine ⟨_, rfl, D, rfl, ⟨_, SqL.of hD'⟩, for_list (K := K) (a := D) (xs := acc') (fun i σ H3 => ∃ v3 v4, σ = [some (.ref a), some (.ref d), some (.ref D), v3, v4, none, none] ∧ Sx (· = d) H' H3 ∧ H3 d = some (.dK (hv (putAll h ((reads h z.moves ++ z.deed.sets h).take i)))))
          ⟨none, none, rfl, Sx.refl _ _, s5 _ _ hh⟩ (fun i σ H3 _ ⟨_, _, _, q, _⟩ => sqL_sx (SqL.of hD') (fun e => dD e.symm) q) ?_ ?_⟩
        · rintro i x σ H3 hi ⟨v3, v4, rfl, q3, d3⟩
          have il : i < (reads h z.moves ++ z.deed.sets h).length := by
            rw [List.length_append, ← lP]
            exact (List.getElem?_eq_some_iff.mp hi).1
          obtain ⟨t, g1, g2⟩ := P5.g i _ (List.getElem?_eq_getElem il)
          rw [hi] at g1
          cases g1
          have td : ¬ t = d := ne_of g2 (s5 _ _ hh) (by intro q; cases q)
          refine ⟨t, _, rfl, SqT.of (q3 _ _ td g2), rfl, _, _, rfl, _, _, rfl, rfl, ?_⟩
          refine ⟨_, rfl, _, rfl, _, rfl, d, _, rfl, DPut.k d3 ?_, _, _, rfl, q3.at rfl, ?_⟩
          · have := putAll_len ((reads h z.moves ++ z.deed.sets h).take i) h
            have l3 : ((reads h z.moves ++ z.deed.sets h).take i).length ≤ 101 := by
              rw [List.length_take, List.length_append]
              omega
            unfold hv
            rw [List.length_map, sizeLine_eq]
            omega
          · rw [upd_same, putK_hv, putAll_take h (List.getElem?_eq_getElem il)]
        · rintro σ H3 ⟨v3, v4, rfl, q3, d3⟩
          refine k H3 ((Sx.ofSame s5).trans q3) ?_
          rw [List.take_of_length_le (by rw [List.length_append]; omega)] at d3
          exact d3
end
end K48

namespace K48
open PySem PySem.Spec PyProof.Rows L2
theorem cells_nil (acc : List Str) : cells [] acc = acc := rfl
def addCell (acc : List Str) (o : Opd) : List Str := match o.cell? with
  | some s => if s ∈ acc then acc else acc ++ [s]
  | none => acc
theorem cells_foldl : ∀ (os : List Opd) (acc : List Str), cells os acc = os.foldl addCell acc
  | [], acc => rfl
  | o :: r, acc => by
    rw [List.foldl_cons, ← cells_foldl r]
    rfl
theorem foldl_take {α β : Type} {f : β → α → β} {l : List α} {b : β} {i : Nat} {x : α} (hi : l[i]? = some x) : (l.take (i + 1)).foldl f b = f ((l.take i).foldl f b) x := by
  have e : l.take (i + 1) = l.take i ++ [x] := by
    rw [List.take_add_one, hi]
    rfl
  rw [e, List.foldl_append]
  rfl
theorem inV_str (s : Str) (acc : List Str) : inV (.str s) (acc.map V.str) = decide (s ∈ acc) := by
  unfold inV
  rw [List.any_map]
  induction acc with
  | nil => rfl
  | cons c r ih =>
    rw [List.any_cons, ih]
    have e : (Function.comp (fun y => eqV y (.str s)) V.str) c = decide (c = s) := by
      by_cases h : c = s
      · subst h
        simp [eqV]
      · simp [eqV, h]
    rw [e]
    by_cases h : c = s
    · subst h
      simp
    · have h2 : ¬ s = c := fun q => h q.symm
      simp [h, h2]
theorem opds_len (d : Deed) : d.opds.length ≤ 2 := by
  cases d with
  | set t v => cases v <;> simp [Deed.opds, Vl.opds]
  | _ => simp [Deed.opds]
theorem addCell_len (acc : List Str) (o : Opd) : (addCell acc o).length ≤ acc.length + 1 := by
  unfold addCell
  split
  · split
    · omega
    · simp
  · omega
theorem fold_len : ∀ (os : List Opd) (acc : List Str), (os.foldl addCell acc).length ≤ acc.length + os.length
  | [], acc => by simp
  | o :: r, acc => by
    have := fold_len r (addCell acc o)
    have := addCell_len acc o
    rw [List.foldl_cons, List.length_cons]
    omega
section
variable {P : Program} {w : World} {K : PySem.W.Frag} {mg : Str → Option Value} {base : Heap}
def kkind : Key → String
  | .inl _ => "int"
  | .inr _ => "str"
theorem int_not_str : decide (("int" : String) = "str") = false := by decide
theorem str_is_str : decide (("str" : String) = "str") = true := by decide
theorem addCell_in {acc : List Str} {c : Str} (e : c ∈ acc) : addCell acc (.pl (.inr c)) = acc := if_pos e
theorem addCell_out {acc : List Str} {c : Str} (e : ¬ c ∈ acc) : addCell acc (.pl (.inr c)) = acc ++ [c] := if_neg e
theorem key_kd (H : Hp) (key : Key) : Kd H (kV key) (kkind key) := by
  cases key with
  | inl i => exact .int i
  | inr s => exact .str s
def spStepPieces (C : Addr) : Sp := fun vs H Q _ => ∃ (a : Addr) (s : Sp1), vs = [.ref a] ∧ StepAt C H a s ∧ s.moves.length ≤ 100 ∧ ∀ H', Same H H' → Q (.int s.count) H'
abbrev nSP : List Str := ["step", "cells", "operand", "is_put"]
theorem sc_step_pieces : FnScope nSP ["step"] (defScope s_step_pieces) := ⟨rfl, rfl, rfl, by decide +kernel, rfl, by decide +kernel, by decide +kernel⟩
theorem ca_step_pieces (T : Tx K mg) : Ca P w K mg base CX0 2 "step_pieces" (spStepPieces (He.ga K "Step")) := by
  refine ca0 T.f_step_pieces T.m_step_pieces sc_step_pieces (fun _ _ _ _ _ _ us hl => match us, hl with | [_], _ => rfl) (fun vs H Q E h => ?_) (fun cdv A outer s H vs Q E hr h => ?_)
  · obtain ⟨a, s, rfl, _⟩ := h
    rfl
  · obtain ⟨a, z, rfl, ⟨dx, dv, mv, hs, hd, hm⟩, hlen, k⟩ := h
    have c1 := ca_operands_of (P := P) (w := w) (base := base) T
    refine ⟨_, pss_cons (ps_set (i := 1) sc_step_pieces.nd rfl (Or.inl rfl) (pe_lst pa_nil))
      (pss_cons (ps_for PassesOwn.never rfl (pi_tup (pe_ca c1 hr (pa_cons (pe_fld (pv 0) rfl) pa_nil))) (pg_name (i := 2) sc_step_pieces.nd rfl (Or.inl rfl))
        (pss_one (ps_if (PW.pt (pw_and (pt_val (pe_callB call_isi (by rfl) T.z_isinstance (by decide +kernel) (pa_cons (pv 2) (pa_cons (pe_tyn "tuple" T.z_tuple (by decide +kernel)) pa_nil))))
            (pw_and (pt_val (pe_callB call_isi (by rfl) T.z_isinstance (by decide +kernel) (pa_cons (pe_ix ix_tup (pv 2) pe_int (fun _ _ => rfl)) (pa_cons (pe_tyn "str" T.z_str (by decide +kernel)) pa_nil))))
              (pw_and1 (pt_cmpR op_notIn_seq (pe_ix ix_tup (pv 2) pe_int (fun _ _ => rfl)) (pv 1) (by rfl))))))
          (pss_one (ps_expr (pe_bm PySem.F.plainAttrs_list PySem.F.slot_list_append PySem.F.type_list_append mt_append (pv 1) (pa_cons (pe_ix ix_tup (pv 2) pe_int (fun _ _ => rfl)) pa_nil)))) pss_nil)))
      (C8.pss_cut (ps_set (i := 3) sc_step_pieces.nd rfl (Or.inl rfl) (pe_and (pe_cmpR op_eq (pe_ix ix_tup (pe_fld (pv 0) rfl) pe_int (fun _ _ => rfl)) pe_str (nomark _)) (pe_one (pe_callB call_isi (by rfl) T.z_isinstance (by decide +kernel) (pa_cons (pe_ix ix_tup (pe_fld (pv 0) rfl) pe_int (fun _ _ => rfl)) (pa_cons (pe_tyn "str" T.z_str (by decide +kernel)) pa_nil))))))
      (pss_one (ps_ret (pe_op op_add (pe_op op_add (pe_callB call_len_seq (by rfl) T.z_len PySem.boot_len (pa_cons (pv 1) pa_nil)) (pe_callB call_len_seq (by rfl) T.z_len PySem.boot_len (pa_cons (pe_fld (pv 0) rfl) pa_nil))) (pe_callTy call_int1 (by rfl) T.z_int (by decide +kernel) (pa_cons (pv 3) pa_nil))))))), ?_⟩
    obtain ⟨ma, ms, rfl, hma, hms⟩ := Da.tup.mp hm
    have lms := hms.length
    rw [List.length_map] at lms
    refine ⟨Nat.zero_le _, fun D nD => ?_⟩
    have s1 : Same H (upd H D (.lst [])) := same_new nD
    refine ⟨_, rfl, a, _, dx, _, _, rfl, s1 _ _ hs, T.c_Step, T.n_Step_deed, stepFs_deed, dv, z.deed, rfl, hd.kp (Kp.of s1), fun H2 p xs s2 hp hxs => ?_⟩
    have lx := hxs.length
    rw [List.length_map] at lx
    have l2 := opds_len z.deed
    have pD : ¬ p = D := fun q => by
      rw [q, s2 _ _ upd_same] at hp
      cases hp
    refine ⟨p, rfl, ⟨_, SqT.of hp⟩, for_tup (K := K) (a := p) (xs := xs) (fun i σ H3 => ∃ v, σ = [some (.ref a), some (.ref D), v, none] ∧ Sx (· = D) H2 H3 ∧ H3 D = some (.lst (((z.deed.opds.take i).foldl addCell []).map V.str)))
      ⟨none, rfl, Sx.refl _ _, s2 _ _ upd_same⟩ (fun i σ H3 _ ⟨_, _, q, _⟩ => sqT_sx (SqT.of hp) pD q) ?_ ?_⟩
    · rintro i x σ H3 hi ⟨v, rfl, q3, d3⟩
      have kp3 : Kp (off H2 D) H3 := ⟨fun b ys hb => by
        by_cases e : b = D
        · rw [e, off_same] at hb
          cases hb
        · rw [off_ne e] at hb
          exact q3 _ _ e hb, fun b ys hb => by
        by_cases e : b = D
        · rw [e, off_same] at hb
          cases hb
        · rw [off_ne e] at hb
          exact q3 _ _ e hb⟩
      obtain ⟨dd, h1, h2⟩ := hxs.get hi
      rw [List.getElem?_map] at h1
      cases ho : z.deed.opds[i]? with
      | none =>
        rw [ho] at h1
        cases h1
      | some o =>
        rw [ho] at h1
        obtain rfl := Option.some.inj h1
        rw [foldl_take ho]
        have hlenF : ((z.deed.opds.take i).foldl addCell []).length ≤ 2 := by
          have := fold_len (z.deed.opds.take i) []
          have l3 : (z.deed.opds.take i).length ≤ 2 := by
            rw [List.length_take]
            omega
          simp at this
          simp at l3
          omega
        cases o with
        | num n =>
          obtain rfl := Da.int.mp h2
          have hk : Kd H3 (.int n) "int" := .int n
          refine ⟨_, rfl, _, .ty "tuple", _, _, _, rfl, .ty "tuple", hk.ty, kit_tuple hk.mem, _, rfl, if_f (by decide) (if_f rfl ?_)⟩
          exact ⟨_, rfl, q3, d3⟩
        | pl key =>
          obtain ⟨b, ys, rfl, hb, h3⟩ := Da.tup.mp h2
          obtain ⟨v1, r1, rfl, e1, h4⟩ := DaL.cons.mp h3
          obtain ⟨v2, r2, rfl, e2, h5⟩ := DaL.cons.mp h4
          obtain rfl := e2.key
          have bD : ¬ b = D := fun q => by
            rw [q, s2 _ _ upd_same] at hb
            cases hb
          have hb3 := q3 _ _ bD hb
          have hk : Kd H3 (.ref b) "tuple" := .tup hb3
          refine ⟨_, rfl, _, .ty "tuple", _, _, _, rfl, .ty "tuple", hk.ty, kit_tuple hk.mem, _, rfl, if_t (by decide) ?_⟩
          have hk2 := key_kd H3 key
          refine ⟨_, rfl, b, _, _, _, rfl, rfl, SqT.of hb3, at1 _ _ _, _, .ty "str", _, _, _, rfl, .ty "str", hk2.ty, kit_str hk2.mem, _, rfl, ?_⟩
          cases key with
          | inl n =>
            refine if_f int_not_str (if_f rfl ?_)
            exact ⟨_, rfl, q3, d3⟩
          | inr c =>
            refine if_t str_is_str ?_
            refine ⟨_, rfl, b, _, _, _, rfl, rfl, SqT.of hb3, at1 _ _ _, _, rfl, D, _, rfl, .inl (SqL.of d3), rfl, ?_, _, rfl, ?_⟩
            · rw [List.all_map]
              exact List.all_eq_true.mpr fun _ _ => rfl
            · show (if (!inV (.str c) _) = true then _ else _)
              rw [inV_str]
              by_cases e : c ∈ (z.deed.opds.take i).foldl addCell []
              · refine if_f (by rw [decide_eq_true e]; rfl) ?_
                refine ⟨_, rfl, q3, ?_⟩
                rw [addCell_in e]
                exact d3
              · refine if_t (by rw [decide_eq_false e]; rfl) ?_
                refine ⟨_, rfl, .inl ⟨rfl, _, SqL.of d3⟩, _, rfl, b, _, _, _, rfl, rfl, SqT.of hb3, at1 _ _ _, D, _, _, rfl, rfl, d3, by rw [List.length_map, sizeLine_eq]; omega, ?_⟩
                refine ⟨_, rfl, q3.at rfl, ?_⟩
                rw [addCell_out e, upd_same, List.map_append]
                rfl
    · rintro σ H3 ⟨v, rfl, q3, d3⟩
      have s3 : Same H H3 := fun b o hb => q3 _ _ (fun e => by rw [e, nD] at hb; cases hb) (s2 _ _ (s1 _ _ hb))
      rw [lx, List.take_length, ← cells_foldl] at d3
      refine ⟨fun σ' H' => σ' = [some (.ref a), some (.ref D), v, some (.bl z.deed.put?)] ∧ H' = H3, ?_, ?_⟩
      · obtain ⟨sst, sd, sm, sf⟩ := z
        have hs3 := s3 _ _ hs
        cases sd with
        | set t v =>
          obtain ⟨b, xs, rfl, hb, h3⟩ := Da.tup.mp hd
          obtain ⟨v1, r1, rfl, e1, h4⟩ := DaL.cons.mp h3
          obtain rfl := Da.str.mp e1
          obtain ⟨v2, r2, rfl, e4, h5⟩ := DaL.cons.mp h4
          refine ⟨_, rfl, a, _, dx, _, _, rfl, hs3, T.c_Step, T.n_Step_deed, stepFs_deed, b, _, _, _, rfl, rfl, SqT.of (s3 _ _ hb), at0 _ _, rfl, _, rfl, if_t (decide_eq_true rfl) ?_⟩
          refine ⟨_, rfl, a, _, dx, _, _, rfl, hs3, T.c_Step, T.n_Step_deed, stepFs_deed, b, _, _, _, rfl, rfl, SqT.of (s3 _ _ hb), at1 _ _ _, ?_⟩
          cases t with
          | none =>
            obtain rfl := Da.none.mp e4
            have hk : Kd H3 .non "NoneType" := .non
            exact ⟨_, .ty "str", _, _, _, rfl, .ty "str", hk.ty, kit_str hk.mem, rfl, rfl⟩
          | some key =>
            obtain rfl := Da.key (k := key) e4
            have hk := key_kd H3 key
            refine ⟨_, .ty "str", _, _, _, rfl, .ty "str", hk.ty, kit_str hk.mem, ?_, rfl⟩
            cases key <;> rfl
        | skip =>
          obtain ⟨b, xs, rfl, hb, h3⟩ := Da.tup.mp hd
          obtain ⟨v1, r1, rfl, e1, h4⟩ := DaL.cons.mp h3
          obtain rfl := Da.str.mp e1
          exact ⟨_, rfl, a, _, dx, _, _, rfl, hs3, T.c_Step, T.n_Step_deed, stepFs_deed, b, _, _, _, rfl, rfl, SqT.of (s3 _ _ hb), at0 _ _, rfl, _, rfl, if_f (sne "skip" "set") ⟨rfl, rfl⟩⟩
        | give o =>
          obtain ⟨b, xs, rfl, hb, h3⟩ := Da.tup.mp hd
          obtain ⟨v1, r1, rfl, e1, h4⟩ := DaL.cons.mp h3
          obtain rfl := Da.str.mp e1
          exact ⟨_, rfl, a, _, dx, _, _, rfl, hs3, T.c_Step, T.n_Step_deed, stepFs_deed, b, _, _, _, rfl, rfl, SqT.of (s3 _ _ hb), at0 _ _, rfl, _, rfl, if_f (sne "give" "set") ⟨rfl, rfl⟩⟩
        | test pr bb =>
          obtain ⟨b, xs, rfl, hb, h3⟩ := Da.tup.mp hd
          obtain ⟨v1, r1, rfl, e1, h4⟩ := DaL.cons.mp h3
          obtain rfl := Da.str.mp e1
          exact ⟨_, rfl, a, _, dx, _, _, rfl, hs3, T.c_Step, T.n_Step_deed, stepFs_deed, b, _, _, _, rfl, rfl, SqT.of (s3 _ _ hb), at0 _ _, rfl, _, rfl, if_f (sne "test" "set") ⟨rfl, rfl⟩⟩
      · rintro σ' H' ⟨rfl, rfl⟩
        refine ⟨_, rfl, D, _, rfl, .inl (SqL.of d3), _, rfl, a, _, dx, _, _, rfl, s3 _ _ hs, T.c_Step, T.n_Step_moves, stepFs_moves, ma, _, rfl, .inr (SqT.of (s3 _ _ hma)), _, _, rfl, rfl, _, rfl, .inr ⟨_, rfl, _, _, rfl, rfl, ?_⟩⟩
        refine q_int (k _ s3) ?_
        unfold Sp1.count
        rw [List.length_map, lms]
end
end K48

namespace K48
open PySem PySem.Spec PyProof.Rows L2
/-! ### a list or a tuple walked -/
theorem pi_or {X : Cx} {tg e : Expr} {t u : TI} (h1 : PI X tg e t) (h2 : PI X tg e u) : PI X tg e (fun σ H R => t σ H R ∨ u σ H R) :=
  ⟨fun pins s σ H R I h => h.elim (h1.run pins s σ H R I) (h2.run pins s σ H R I)⟩
/-! ### [x for x in xs if p(x)] -/
section
variable {K : PySem.W.Frag} {a D : Addr} {xs : List V} {j : Nat} {σ : L2.St} {H1 : Hp} {tt : TT} {Qd : Hp → Prop}
theorem lc_filt (p : V → Bool) (hx : SqL K H1 a xs) (hD : H1 D = none) (hlen : xs.length ≤ 1000)
    (hj : j < σ.length) (hs : ∀ (i : Nat) x H, xs[i]? = some x → Same H1 H → ∀ Q : Bool → Hp → Prop, (∀ H4, Same H H4 → Q (p x) H4) → tt ((wipe σ [j]).set j (some x)) H Q)
    (hd : ∀ H, Same H1 H → H D = some (.lst (xs.filter p)) → Qd H) :
    ∃ W : Nat → Nat → Hp → Prop, (∃ m, W 0 m (upd H1 D (.lst []))) ∧ ∀ i m H, W i m H →
      ((Itl K a).stop i H ∧ Qd H) ∨ ((Itl K a).go i H ∧ ∃ Nx : Hp → Prop, (∀ H', Nx H' → ∃ m', m' < m ∧ W (i + 1) m' H') ∧ ∀ x H', (Itl K a).yld i H x H' → gName j x (wipe σ [j]) H' fun σ2 H2 => wipe σ2 [j] = wipe σ [j] ∧ tt σ2 H2 fun b H3 =>
        if b = true then tVar j σ2 H3 fun y H4 => ∃ acc, H4 D = some (.lst acc) ∧ acc.length < sizeLine ∧ Nx (upd H4 D (.lst (acc ++ [y]))) else Nx H3) := by
  refine lc_list (K := K) (a := a) (xs := xs) (fun i H => Same H1 H ∧ H D = some (.lst ((xs.take i).filter p))) ⟨same_new hD, upd_same⟩ (fun i H _ p => p.1.seq hx) (fun i x H hi q => ⟨wipe_back, ?_⟩) fun H q => ?_
  · obtain ⟨s1, hd1⟩ := q
    have hil := (List.getElem?_eq_some_iff.mp hi).1
    have e : xs.take (i + 1) = xs.take i ++ [x] := by
      rw [List.take_add_one, hi]
      rfl
    have lf : ((xs.take i).filter p).length ≤ i := Nat.le_trans (List.length_filter_le _ _) (by rw [List.length_take]; omega)
    refine hs i x H hi s1 _ fun H4 s4 => ?_
    have s5 := s1.trans s4
    refine if_b (fun c => ?_) fun c => ?_
    · refine ⟨x, ?_, _, s4 _ _ hd1, by rw [sizeLine_eq]; omega, same_upd s5 hD, ?_⟩
      · show ((σ.set j Option.none).set j (some x))[j]? = some (some x)
        exact List.getElem?_set_self (by rw [List.length_set]; exact hj)
      · rw [e, List.filter_append, upd_same]
        simp [c]
    · refine ⟨s5, ?_⟩
      rw [e, List.filter_append, s4 _ _ hd1]
      simp [c]
  · obtain ⟨s1, hd1⟩ := q
    rw [List.take_length] at hd1
    exact hd H s1 hd1
end
/-- isinstance(e, x), x a built-in class -/
theorem pe_isi {X : Cx} {e : Expr} {te : TE} {x : Str} {p p2 pos : Pos} (n : String) (hm : X.mg "isinstance" = none) (hm2 : X.mg x = none) (hv : bootBuiltins x = some (.type n)) (he : PE X e te) (hg1 : Gl X "isinstance" := by rfl) (hg : Gl X x := by rfl) (hn : x ≠ "__name__" := by decide) (hd : (x == ("__debug__" : Str)) = false := by decide)
    (h1 : starEach [e, .Name x p2] X.env = (false, eval e X.env) :: starEach [.Name x p2] X.env := by rfl) : PE X (.Call (.Name "isinstance" p) [e, .Name x p2] [] pos) (tCB (rIsi X.K) (tCons te (tCons (tC (.ty n)) tNil))) :=
  pe_callB (id := "isinstance") call_isi hg1 hm (by decide +kernel) (pa_cons he (pa_cons (pe_tyn n hm2 hv hg hn hd) pa_nil) h1) (he := h1)
section
variable {P : Program} {w : World} {K : PySem.W.Frag} {mg : Str → Option Value} {base : Heap}
/-! is_place -/
def plV : V → Bool
  | .str _ => true
  | .int i => decide (0 ≤ i)
  | _ => false
def spIsPlace : Sp := fun vs H Q _ => ∃ (x : V) (t : String), vs = [x] ∧ Kd H x t ∧ Q (.bl (plV x)) H
theorem sc_is_place : FnScope ["value"] ["value"] (defScope s_is_place) := ⟨rfl, rfl, rfl, by decide +kernel, rfl, by decide +kernel, by decide +kernel⟩
theorem ca_is_place (T : Tx K mg) : Ca P w K mg base CX0 2 "is_place" spIsPlace := by
  refine ca0 T.f_is_place T.m_is_place sc_is_place (fun _ _ _ _ _ _ us hl => match us, hl with | [_], _ => rfl) (fun vs H Q E h => ?_) (fun cdv A outer s H vs Q E hr h => ?_)
  · obtain ⟨x, t, rfl, _⟩ := h
    rfl
  · obtain ⟨x, t, rfl, hk, k⟩ := h
    have c1 := ca_is_int (P := P) (w := w) (base := base) T
    refine ⟨_, pss_one (ps_ret (pe_or (pe_callB call_isi (by rfl) T.z_isinstance (by decide +kernel) (pa_cons (pv 0) (pa_cons (pe_tyn "str" T.z_str (by decide +kernel)) pa_nil))) (pe_one (pe_and (pe_ca c1 hr (pa_cons (pv 0) pa_nil)) (pe_one (pe_cmpR op_ge (pv 0) pe_int (nomark _))))))), ?_⟩
    refine ⟨_, rfl, x, .ty "str", _, _, _, rfl, .ty "str", hk.ty, kit_str hk.mem, _, rfl, ?_⟩
    cases hk with
    | str s => exact if_t (by decide) k
    | int i => exact if_f (by decide) ⟨_, rfl, _, "int", rfl, .int i, _, rfl, if_t (by decide) ⟨_, rfl, _, _, rfl, rfl, k⟩⟩
    | bl b => exact if_f (by decide) ⟨_, rfl, _, "bool", rfl, .bl b, _, rfl, if_f (by decide) k⟩
    | non => exact if_f (by decide) ⟨_, rfl, _, "NoneType", rfl, .non, _, rfl, if_f (by decide) k⟩
    | tup e => exact if_f (by decide) ⟨_, rfl, _, "tuple", rfl, .tup e, _, rfl, if_f (by decide) k⟩
    | lst e => exact if_f (by decide) ⟨_, rfl, _, "list", rfl, .lst e, _, rfl, if_f (by decide) k⟩
/-! in_order -/
def intsK (ks : List Key) : List Int := ks.filterMap fun k => match k with | .inl i => some i | .inr _ => none
def strsK (ks : List Key) : List Str := ks.filterMap fun k => match k with | .inl _ => none | .inr s => some s
/-- the registers first, ascending, then the cells by alphabet -/
def OrdK (ks l : List Key) : Prop := ∃ (ns : List Int) (ss : List Str), l = ns.map Sum.inl ++ ss.map Sum.inr ∧ ns.Perm (intsK ks) ∧ ns.Pairwise (· ≤ ·) ∧ ss.Perm (strsK ks) ∧ sortedS ss = true
def isIntV : V → Bool
  | .int _ => true
  | _ => false
def isStrV : V → Bool
  | .str _ => true
  | _ => false
theorem filt_int : ∀ ks : List Key, (ks.map kV).filter isIntV = (intsK ks).map V.int
  | [] => rfl
  | .inl i :: r => by
    have := filt_int r
    show V.int i :: (r.map kV).filter isIntV = V.int i :: (intsK r).map V.int
    rw [this]
  | .inr s :: r => filt_int r
theorem filt_str : ∀ ks : List Key, (ks.map kV).filter isStrV = (strsK ks).map V.str
  | [] => rfl
  | .inr s :: r => by
    have := filt_str r
    show V.str s :: (r.map kV).filter isStrV = V.str s :: (strsK r).map V.str
    rw [this]
  | .inl i :: r => filt_str r
theorem filt_nstr : ∀ ks : List Key, (ks.map kV).filter (fun v => !isStrV v) = (intsK ks).map V.int
  | [] => rfl
  | .inl i :: r => by
    have := filt_nstr r
    show V.int i :: (r.map kV).filter (fun v => !isStrV v) = V.int i :: (intsK r).map V.int
    rw [this]
  | .inr s :: r => filt_nstr r
theorem strsK_len (ks : List Key) : (strsK ks).length ≤ ks.length := List.length_filterMap_le _ _
theorem intsK_len (ks : List Key) : (intsK ks).length ≤ ks.length := List.length_filterMap_le _ _
theorem mapK (ns : List Int) (ss : List Str) : (ns.map Sum.inl ++ ss.map Sum.inr : List Key).map kV = ns.map V.int ++ ss.map V.str := by
  rw [List.map_append, List.map_map, List.map_map]
  rfl
def spInOrder (K : PySem.W.Frag) : Sp := fun vs H Q _ => ∃ (a : Addr) (ks : List Key), vs = [.ref a] ∧ H a = some (.lst (ks.map kV)) ∧ ks.length < 64 ∧ ∀ H' p l, Same H H' → OrdK ks l → H' p = some (.lst (l.map kV)) → Q (.ref p) H'
abbrev nIO : List Str := ["places", "numbers", "place"]
theorem sc_in_order : FnScope nIO ["places"] (defScope s_in_order) := ⟨rfl, rfl, rfl, by decide +kernel, rfl, by decide +kernel, by decide +kernel⟩
theorem key_at {ks : List Key} {i : Nat} {x : V} (h : (ks.map kV)[i]? = some x) : ∃ k, ks[i]? = some k ∧ x = kV k := by
  rw [List.getElem?_map] at h
  cases q : ks[i]? with
  | none =>
    rw [q] at h
    cases h
  | some k =>
    rw [q] at h
    exact ⟨k, rfl, (Option.some.inj h).symm⟩
theorem ca_in_order (T : Tx K mg) : Ca P w K mg base CX0 2 "in_order" (spInOrder K) := by
  refine ca0 T.f_in_order T.m_in_order sc_in_order (fun _ _ _ _ _ _ us hl => match us, hl with | [_], _ => rfl) (fun vs H Q E h => ?_) (fun cdv A outer s H vs Q E hr h => ?_)
  · obtain ⟨a, ks, rfl, _⟩ := h
    rfl
  · obtain ⟨a, ks, rfl, ha, hlen, k⟩ := h
    have c1 := ca_is_int (P := P) (w := w) (base := base) T
    refine ⟨_, pss_cons (ps_set (i := 1) sc_in_order.nd rfl (Or.inl rfl) (pe_callB cr_sortedI (by rfl) T.z_sorted (by decide +kernel) (pa_cons
        (pe_lc (own := [("place", 2)]) (g := gName 2) (tt := tB (tCall spIsInt [] E0 (tCons (tVar 2) tNil))) rfl sc_in_order.nd (pi_list (pv 0)) (blkOk_by (N := nIO) (sc := defScope s_in_order) (by decide +kernel)) (fun _ _ _ _ _ => pg_name (i := 2) sc_in_order.nd rfl (Or.inl rfl))
          (fun _ _ _ _ _ => pts_one (pt_val (pe_ca c1 hr (pa_cons (pv 2) pa_nil)))) (fun _ _ _ _ _ => pv 2)) pa_nil)))
      (pss_one (ps_ret (pe_op op_cat (pv 1) (pe_callB cr_sortedS (by rfl) T.z_sorted (by decide +kernel) (pa_cons
        (pe_lc (own := [("place", 2)]) (g := gName 2) (tt := tB (tCB (rIsi K) (tCons (tVar 2) (tCons (tC (.ty "str")) tNil)))) rfl sc_in_order.nd (pi_list (pv 0)) (blkOk_by (N := nIO) (sc := defScope s_in_order) (by decide +kernel)) (fun _ _ _ _ _ => pg_name (i := 2) sc_in_order.nd rfl (Or.inl rfl))
          (fun _ _ _ _ _ => pts_one (pt_val (pe_isi "str" T.z_isinstance T.z_str (by decide +kernel) (pv 2)))) (fun _ _ _ _ _ => pv 2)) pa_nil))))), ?_⟩
    refine ⟨_, rfl, a, rfl, ⟨_, SqL.of ha⟩, fun D nD => ?_⟩
    refine lc_filt (K := K) (a := a) (xs := ks.map kV) isIntV (SqL.of ha) nD (by rw [List.length_map]; omega) (by show 2 < 3; omega) ?_ ?_
    · intro i x H2 hi s2 Q2 k2
      obtain ⟨key, _, rfl⟩ := key_at hi
      have hk := key_kd H2 key
      refine ⟨_, rfl, _, _, rfl, hk, _, rfl, ?_⟩
      have e : decide (kkind key = "int") = isIntV (kV key) := by cases key <;> rfl
      rw [e]
      exact k2 _ (Same.refl _)
    · intro H2 s2 hD
      rw [filt_int] at hD
      refine ⟨D, _, rfl, SqL.of hD, fun ns p hp hs np => ?_⟩
      have s3 := same_upd (o := .lst (ns.map V.int)) s2 (s2.free np)
      refine ⟨_, rfl, _, rfl, a, rfl, ⟨_, SqL.of (s3 _ _ ha)⟩, fun D2 nD2 => ?_⟩
      refine lc_filt (K := K) (a := a) (xs := ks.map kV) isStrV (SqL.of (s3 _ _ ha)) nD2 (by rw [List.length_map]; omega) (by show 2 < 3; omega) ?_ ?_
      · intro i x H3 hi s4 Q2 k2
        obtain ⟨key, _, rfl⟩ := key_at hi
        have hk := key_kd H3 key
        refine ⟨_, rfl, _, .ty "str", _, _, _, rfl, .ty "str", hk.ty, kit_str hk.mem, _, rfl, ?_⟩
        have e : decide (kkind key = "str") = isStrV (kV key) := by cases key <;> rfl
        rw [e]
        exact k2 _ (Same.refl _)
      · intro H3 s4 hD2
        rw [filt_str] at hD2
        have l1 := strsK_len ks
        have l2 := intsK_len ks
        refine ⟨D2, _, rfl, SqL.of hD2, by omega, fun ss p2 hp2 hs2 np2 => ?_⟩
        have p1 : H3 p = some (.lst (ns.map V.int)) := s4 _ _ upd_same
        refine ⟨p, p2, _, _, rfl, rfl, by rw [upd_ne (ne_of_none p1 np2)]; exact p1, upd_same, ?_, fun p3 np3 => ?_⟩
        · rw [List.length_map, List.length_map, hp.length_eq, hp2.length_eq, sizeLine_eq]
          omega
        · have s5 := s3.trans s4
          have s6 := same_upd (o := .lst (ss.map V.str)) s5 (s5.free np2)
          exact k _ p3 (ns.map Sum.inl ++ ss.map Sum.inr) (same_upd s6 (s6.free np3)) ⟨ns, ss, rfl, hp, hs, hp2, hs2⟩ (by rw [mapK]; exact upd_same)
end
end K48

namespace K48
open PySem PySem.Spec PyProof.Rows L2
/-! ### as_tuples in plain Lean -/
mutual
def asT : PyData → PyData
  | .list ds => .tuple (asTL ds)
  | .tuple ds => .tuple (asTL ds)
  | .none => .none
  | .bool b => .bool b
  | .int i => .int i
  | .str s => .str s
  | .dict k => .dict k
def asTL : List PyData → List PyData
  | [] => []
  | d :: ds => asT d :: asTL ds
end
def isRow : PyData → Bool
  | .list _ => true
  | .tuple _ => true
  | _ => false
/-- rows at most n deep within one another, of at most a thousand items -/
def fit : Nat → PyData → Prop
  | 0, d => isRow d = false
  | n + 1, d => ∀ ds, d = .list ds ∨ d = .tuple ds → ds.length ≤ 1000 ∧ ∀ e ∈ ds, fit n e
theorem asTL_map : ∀ ds : List PyData, asTL ds = ds.map asT
  | [] => rfl
  | d :: ds => by rw [asTL, asTL_map ds]; rfl
/-- tuples and instances stay -/
structure Kt (H H' : Hp) : Prop where
  t : ∀ a xs, H a = some (.tup xs) → H' a = some (.tup xs)
  i : ∀ a C dx fs, H a = some (.ins C dx fs) → H' a = some (.ins C dx fs)
theorem Kt.of {H H' : Hp} (e : Same H H') : Kt H H' := ⟨fun a xs h => e a _ h, fun a C dx fs h => e a _ h⟩
theorem kt_off {H : Hp} {D : Addr} {acc : List V} (h : H D = some (.lst acc)) : Kt H (off H D) := ⟨fun a xs q => by
  rw [off_ne (ne_of q h (by intro z; cases z))]
  exact q, fun a C dx fs q => by
  rw [off_ne (ne_of q h (by intro z; cases z))]
  exact q⟩
mutual
theorem da_kt {H H' : Hp} (e : Kt H H') : ∀ {d : PyData} {v : V}, Da H (asT d) v → Da H' (asT d) v
  | .none, _, h => by simpa only [asT, Da] using h
  | .bool _, _, h => by simpa only [asT, Da] using h
  | .int _, _, h => by simpa only [asT, Da] using h
  | .str _, _, h => by simpa only [asT, Da] using h
  | .list ds, v, h => by
    simp only [asT, Da] at h ⊢
    obtain ⟨a, xs, h1, h2, h3⟩ := h
    exact ⟨a, xs, h1, e.t a xs h2, daL_kt e h3⟩
  | .tuple ds, v, h => by
    simp only [asT, Da] at h ⊢
    obtain ⟨a, xs, h1, h2, h3⟩ := h
    exact ⟨a, xs, h1, e.t a xs h2, daL_kt e h3⟩
  | .dict _, _, h => by simp only [asT, Da] at h
theorem daL_kt {H H' : Hp} (e : Kt H H') : ∀ {ds : List PyData} {xs : List V}, DaL H (asTL ds) xs → DaL H' (asTL ds) xs
  | [], _, h => by simpa only [asTL, DaL] using h
  | d :: ds, xs, h => by
    simp only [asTL, DaL] at h ⊢
    obtain ⟨v, vs, h1, h2, h3⟩ := h
    exact ⟨v, vs, h1, da_kt e h2, daL_kt e h3⟩
end
theorem DaL.of_get {H : Hp} : ∀ {ds : List PyData} {xs : List V}, xs.length = ds.length → (∀ (i : Nat) d v, ds[i]? = some d → xs[i]? = some v → Da H d v) → DaL H ds xs
  | [], [], _, _ => by simp only [DaL]
  | d :: ds, x :: xs, hl, h => by
    simp only [DaL]
    exact ⟨x, xs, rfl, h 0 d x rfl rfl, DaL.of_get (by simpa using hl) fun i d' v h1 h2 => h (i + 1) d' v (by simpa using h1) (by simpa using h2)⟩
/-- a list or a tuple stands at a -/
def RowAt (H : Hp) (a : Addr) (xs : List V) : Prop := H a = some (.lst xs) ∨ H a = some (.tup xs)
theorem RowAt.same {H H' : Hp} {a : Addr} {xs : List V} (e : Same H H') (h : RowAt H a xs) : RowAt H' a xs := h.imp (e _ _) (e _ _)
theorem RowAt.row {K : PySem.W.Frag} {H : Hp} {a : Addr} {xs : List V} (h : RowAt H a xs) : RowK K H (.ref a) true := by
  rcases h with h | h
  · exact .kd (.lst h)
  · exact .kd (.tup h)
def AsT (K : PySem.W.Frag) : Nat → V → Hp → VK → Prop
  | 0, x, H, Q => RowK K H x false ∧ ∀ H', Same H H' → Q x H'
  | n + 1, x, H, Q => (RowK K H x false ∧ ∀ H', Same H H' → Q x H') ∨ ∃ (a : Addr) (xs : List V) (R : Nat → V → Hp → Prop), x = .ref a ∧ RowAt H a xs ∧ xs.length ≤ 1000 ∧ (∀ i v H1 H2, Kt H1 H2 → R i v H1 → R i v H2) ∧
      (∀ (i : Nat) y, xs[i]? = some y → ∀ H1, Same H H1 → ∀ Q' : VK, (∀ v H2, Same H1 H2 → R i v H2 → Q' v H2) → AsT K n y H1 Q') ∧
      ∀ H' b ys, Same H H' → H' b = some (.tup ys) → ys.length = xs.length → (∀ (i : Nat) v, ys[i]? = some v → R i v H') → Q (.ref b) H'
theorem row_da {K : PySem.W.Frag} {H : Hp} {d : PyData} {v : V} (h : Da H d v) (hd : isRow d = false) : RowK K H v false := by
  have hk := h.kd
  have e : (decide (kindOf d = "tuple") || decide (kindOf d = "list")) = false := by
    cases d with
    | list ds => cases hd
    | tuple ds => cases hd
    | _ => rfl
  rw [← e]
  exact .kd hk
theorem asT_leaf {d : PyData} (hd : isRow d = false) : asT d = d := by
  cases d with
  | list ds => cases hd
  | tuple ds => cases hd
  | _ => simp only [asT]
/-- as_tuples of data -/
theorem asT_da {K : PySem.W.Frag} : ∀ (n : Nat) {d : PyData} {v : V} {H : Hp} {Q : VK}, fit n d → Da H d v → (∀ H' y, Same H H' → Da H' (asT d) y → Q y H') → AsT K n v H Q
  | 0, d, v, H, Q, hf, hd, k => ⟨row_da hd hf, fun H' s => k H' v s (by rw [asT_leaf hf]; exact hd.kp (Kp.of s))⟩
  | n + 1, d, v, H, Q, hf, hd, k => by
    have leaf : isRow d = false → AsT K (n + 1) v H Q := fun q => .inl ⟨row_da hd q, fun H' s => k H' v s (by rw [asT_leaf q]; exact hd.kp (Kp.of s))⟩
    have row : ∀ ds, d = .list ds ∨ d = .tuple ds → (∃ a xs, v = .ref a ∧ RowAt H a xs ∧ DaL H ds xs) → asT d = .tuple (asTL ds) → AsT K (n + 1) v H Q := by
      rintro ds e ⟨a, xs, rfl, hr, hx⟩ et
      obtain ⟨h1, h2⟩ := hf ds e
      have lx := hx.length
      refine .inr ⟨a, xs, fun i v H' => ∃ d', ds[i]? = some d' ∧ Da H' (asT d') v, rfl, hr, by omega, ?_, ?_, ?_⟩
      · rintro i v H1 H2 e ⟨d', h3, h4⟩
        exact ⟨d', h3, da_kt e h4⟩
      · intro i y hi H1 s1 Q' k'
        obtain ⟨d', h3, h4⟩ := hx.get hi
        exact asT_da n (h2 d' (List.mem_of_getElem? h3)) (h4.kp (Kp.of s1)) fun H2 v s2 h5 => k' v H2 s2 ⟨d', h3, h5⟩
      · intro H' b ys s1 hb hl hy
        refine k H' _ s1 ?_
        rw [et, Da.tup]
        refine ⟨b, ys, rfl, hb, ?_⟩
        rw [asTL_map]
        refine DaL.of_get (by rw [hl, lx, List.length_map]) fun i d' v h3 h4 => ?_
        obtain ⟨d2, h5, h6⟩ := hy i v h4
        rw [List.getElem?_map, h5] at h3
        rw [← Option.some.inj h3]
        exact h6
    cases d with
    | list ds =>
      obtain ⟨a, xs, h1, h2, h3⟩ := Da.lst.mp hd
      exact row ds (.inl rfl) ⟨a, xs, h1, .inl h2, h3⟩ (by simp only [asT])
    | tuple ds =>
      obtain ⟨a, xs, h1, h2, h3⟩ := Da.tup.mp hd
      exact row ds (.inr rfl) ⟨a, xs, h1, .inr h2, h3⟩ (by simp only [asT])
    | _ => exact leaf rfl
/-- as_tuples of a row of instances -/
theorem asT_ins {K : PySem.W.Frag} {n : Nat} {a : Addr} {xs : List V} {H : Hp} {Q : VK} (hr : RowAt H a xs) (hl : xs.length ≤ 1000) (hi : ∀ x ∈ xs, RowK K H x false) (k : ∀ H' b, Same H H' → H' b = some (.tup xs) → Q (.ref b) H') : AsT K (n + 1) (.ref a) H Q := by
  refine .inr ⟨a, xs, fun i v _ => xs[i]? = some v, rfl, hr, hl, fun _ _ _ _ _ h => h, fun i y hy H1 s1 Q' k' => ?_, fun H' b ys s1 hb hl2 hy => ?_⟩
  · have hf := (hi y (List.mem_of_getElem? hy)).same s1
    cases n with
    | zero => exact ⟨hf, fun H2 s2 => k' y H2 s2 hy⟩
    | succ n => exact .inl ⟨hf, fun H2 s2 => k' y H2 s2 hy⟩
  · have e : ys = xs := list_of_get hl2 fun i v hv => hy i v hv
    rw [e] at hb
    exact k H' b s1 hb
section
variable {P : Program} {w : World} {K : PySem.W.Frag} {mg : Str → Option Value} {base : Heap}
def spAsT (K : PySem.W.Frag) (n : Nat) : Sp := fun vs H Q _ => ∃ x, vs = [x] ∧ AsT K n x H Q
abbrev nAT : List Str := ["value", "item"]
theorem sc_as_tuples : FnScope nAT ["value"] (defScope s_as_tuples) := ⟨rfl, rfl, rfl, by decide +kernel, rfl, by decide +kernel, by decide +kernel⟩
theorem ca_as_tuples (T : Tx K mg) : ∀ n, Ca P w K mg base CX0 (n + 2) "as_tuples" (spAsT K n)
  | 0 => by
    refine ca0 T.f_as_tuples T.m_as_tuples sc_as_tuples (fun _ _ _ _ _ _ us hl => match us, hl with | [_], _ => rfl) (fun vs H Q E h => ?_) (fun cdv A outer s H vs Q E hr h => ?_)
    · obtain ⟨x, rfl, _⟩ := h
      rfl
    · obtain ⟨x, rfl, hf, k⟩ := h
      have c1 := ca_is_row (P := P) (w := w) (base := base) T
      refine ⟨_, pss_cons (ps_if (pt_val (pe_ca c1 hr (pa_cons (pv 0) pa_nil))) (pss_one ps_never) pss_nil) (pss_one (ps_ret (pv 0))), ?_⟩
      exact ⟨_, rfl, _, _, rfl, hf, fun H1 s1 => ⟨_, rfl, if_f rfl ⟨_, rfl, k _ s1⟩⟩⟩
  | n + 1 => by
    refine ca0 T.f_as_tuples T.m_as_tuples sc_as_tuples (fun _ _ _ _ _ _ us hl => match us, hl with | [_], _ => rfl) (fun vs H Q E h => ?_) (fun cdv A outer s H vs Q E hr h => ?_)
    · obtain ⟨x, rfl, _⟩ := h
      rfl
    · obtain ⟨x, rfl, h⟩ := h
      have c1 := ca_is_row (P := P) (w := w) (base := base) T
      have c2 := ca_as_tuples T n
      refine ⟨_, pss_cons (ps_if (pt_val (pe_ca c1 hr (pa_cons (pv 0) pa_nil) (by omega))) (pss_one (ps_ret (pe_callTy call_tuple_of (by rfl) T.z_tuple (by decide +kernel) (pa_cons
          (pe_lc (own := [("item", 1)]) (g := gName 1) (tt := tYes) rfl sc_as_tuples.nd (pi_or (pi_list (pv 0)) (pi_tup (pv 0))) (blkOk_by (N := nAT) (sc := defScope s_as_tuples) (by decide +kernel)) (fun _ _ _ _ _ => pg_name (i := 1) sc_as_tuples.nd rfl (Or.inl rfl))
            (fun _ _ _ _ _ => pts_nil) (fun _ _ _ _ _ => pe_ca c2 hr (pa_cons (pv 1) pa_nil) (Nat.le_refl _))) pa_nil)))) pss_nil) (pss_one (ps_ret (pv 0))), ?_⟩
      rcases h with ⟨hf, k⟩ | ⟨a, xs, R, rfl, hrow, hlen, hst, hel, k⟩
      · exact ⟨_, rfl, _, _, rfl, hf, fun H1 s1 => ⟨_, rfl, if_f rfl ⟨_, rfl, k _ s1⟩⟩⟩
      · refine ⟨_, rfl, _, _, rfl, hrow.row, fun H1 s1 => ⟨_, rfl, if_t rfl ?_⟩⟩
        have fin : ∀ (D : Addr), H1 D = none → ∀ H2 acc, Sx (fun _ => False) H1 H2 → True → H2 D = some (.lst acc) → acc.length = xs.length → (∀ (k : Nat) (x v : V), xs[k]? = some x → acc[k]? = some v → R k v (off H2 D)) →
            ∃ p ys, [V.ref D] = [V.ref p] ∧ ((SqL K H2 p ys ∧ ∀ l, H2 l = none → Q (.ref l) (upd H2 l (.tup ys))) ∨ (SqT K H2 p ys ∧ Q (.ref p) H2)) := by
          intro D nD H2 acc e2 _ hD hl hE
          have s2 := s1.trans e2.same
          refine ⟨D, _, rfl, .inl ⟨SqL.of hD, fun l nl => k _ l acc (same_upd s2 (s2.free nl)) upd_same hl fun i v hv => ?_⟩⟩
          have hi : i < xs.length := by
            rw [← hl]
            exact (List.getElem?_eq_some_iff.mp hv).1
          have h1 := hE i _ v (List.getElem?_eq_getElem hi) hv
          exact hst _ _ _ _ ⟨fun b ys q => by
            rw [upd_ne (ne_of_none (off_kp.t _ _ q) nl)]
            exact off_kp.t _ _ q, fun b C dx fs q => by
            have q' : H2 b = some (.ins C dx fs) := off_sx (M := fun _ => False) b _ (fun z => z) q
            rw [upd_ne (ne_of_none q' nl)]
            exact q'⟩ h1
        have el : ∀ (D : Addr) (i : Nat) (x : V) (H2 : Hp), xs[i]? = some x → (∃ acc, H2 D = some (.lst acc)) → Sx (fun _ => False) H1 H2 → True → ∀ Q2 : VK, (∀ y H4, Sx (fun _ => False) H2 H4 → True → R i y (off H4 D) → Q2 y H4) → spAsT K n [x] H2 Q2 E0 := by
          rintro D i x H2 hi ⟨acc, hD⟩ e2 _ Q2 k2
          refine ⟨x, rfl, hel i x hi H2 (s1.trans e2.same) Q2 fun v H4 s4 r4 => k2 v H4 (Sx.ofSame s4) True.intro (hst _ _ _ _ (kt_off (s4 _ _ hD)) r4)⟩
        rcases hrow.same s1 with ha | ha
        · refine .inl ⟨_, rfl, a, rfl, ⟨_, SqL.of ha⟩, fun D nD => ?_⟩
          exact lc_mapL (K := K) (a := a) (xs := xs) (fun _ => False) (fun _ _ => True) (fun i _ v H' => R i v H') (SqL.of ha) (fun z => z) nD (fun z => z) True.intro (fun _ _ _ _ => True.intro) (fun i _ v Ha Hb e q => hst i v Ha Hb (Kt.of e.same) q) hlen
            (fun i x H2 hi h1 h2 h3 Q2 k2 => ⟨_, rfl, el D i x H2 hi h1 h2 h3 Q2 k2⟩) (fun H2 acc h1 h2 h3 h4 h5 => fin D nD H2 acc h1 h2 h3 h4 h5)
        · refine .inr ⟨_, rfl, a, rfl, ⟨_, SqT.of ha⟩, fun D nD => ?_⟩
          exact lc_mapT (K := K) (a := a) (xs := xs) (fun _ => False) (fun _ _ => True) (fun i _ v H' => R i v H') (SqT.of ha) (fun z => z) nD (fun z => z) True.intro (fun _ _ _ _ => True.intro) (fun i _ v Ha Hb e q => hst i v Ha Hb (Kt.of e.same) q) hlen
            (fun i x H2 hi h1 h2 h3 Q2 k2 => ⟨_, rfl, el D i x H2 hi h1 h2 h3 Q2 k2⟩) (fun H2 acc h1 h2 h3 h4 h5 => fin D nD H2 acc h1 h2 h3 h4 h5)
end
end K48

namespace K48
open PySem PySem.Spec PyProof.Rows L2
/-- a class that may be made by its name -/
structure Ma (P : Program) (w : World) (K : PySem.W.Frag) (mg : Str → Option Value) (base : Heap) (CX : CXT) (k : Nat) (x : Str) (C : Addr) (sp : Sp) : Prop where
  ex : ∃ (f : Addr) (fd : FuncData) (ps : List Str), Mk K C f ∧ FnOk P w K mg base CX k f fd ps sp ∧ mg x = some (.ref C) ∧ Binds K fd ps []
/-- a method -/
structure Me (P : Program) (w : World) (K : PySem.W.Frag) (mg : Str → Option Value) (base : Heap) (CX : CXT) (k : Nat) (C : Addr) (m : Str) (sp : Sp) : Prop where
  ex : ∃ (f : Addr) (fd : FuncData) (ps : List Str), Cls K C ∧ Meth K C m f ∧ FnOk P w K mg base CX k f fd ps sp ∧ Binds K fd ps []
section
variable {P : Program} {w : World} {K : PySem.W.Frag} {mg : Str → Option Value} {base : Heap}
theorem ma0 {x qual : Str} {C : Addr} {st : Stmt} {f : Addr} {N ps : List Str} {k : Nat} {sp : Sp} (F : ∃ fd, FunD K "__init__" qual (defArgs st) (defBody st) (defScope st) [] [] f fd) (M : Mk K C f) (m : mg x = some (.ref C)) (S : FnScope N ps (defScope st)) (b : BindP "__init__" qual st ps) (len : ∀ vs H Q E, sp vs H Q E → vs.length = ps.length)
    (hb : Body0 P w K mg base N qual st f k sp) : Ma P w K mg base CX0 (k + 1) x C sp := by
  obtain ⟨fd, F⟩ := F
  exact ⟨f, fd, ps, M, fn0 F S len hb, m, F.bindsN b⟩
theorem me0 {x qual : Str} {C : Addr} {st : Stmt} {f : Addr} {N ps : List Str} {k : Nat} {sp : Sp} (F : ∃ fd, FunD K x qual (defArgs st) (defBody st) (defScope st) [] [] f fd) (c : Cls K C) (M : Meth K C x f) (S : FnScope N ps (defScope st)) (b : BindP x qual st ps) (len : ∀ vs H Q E, sp vs H Q E → vs.length = ps.length)
    (hb : Body0 P w K mg base N qual st f k sp) : Me P w K mg base CX0 (k + 1) C x sp := by
  obtain ⟨fd, F⟩ := F
  exact ⟨f, fd, ps, c, M, fn0 F S len hb, F.bindsN b⟩
end
theorem pe_ma {X : Cx} {k j : Nat} {C : Addr} {x : Str} {sp : Sp} {p pos : Pos} {e : Expr} {es : List Expr} {t : TA} (c : Ma X.prog X.w X.K X.mg X.base CX0 k x C sp) (hr : Room j X.A) (ha : PA X (e :: es) t) (hk : k + 1 ≤ j := by decide) (hg : Gl X x := by rfl)
    (hdb : (x == ("__debug__" : Str)) = false := by decide) (he : starEach (e :: es) X.env = (false, eval e X.env) :: starEach es X.env := by rfl) (hpl : (backTo pos (starEach es X.env)).any (·.1) = false := by rfl) :
    PE X (.Call (.Name x p) (e :: es) [] pos) (tMake C sp [] E0 t) := by
  obtain ⟨f, fd, ps, M, F, hm, b⟩ := c.ex
  exact pe_make M F (hr.mono hk) hg hm b .nil pass0 ha hdb he hpl
theorem putF_le (f : Str) (v : V) : ∀ fs : List (Str × V), (putF f v fs).length ≤ fs.length + 1
  | [] => Nat.le_refl _
  | (g, x) :: r => by
    show (if g = f then (g, v) :: r else (g, x) :: putF f v r).length ≤ _
    have := putF_le f v r
    split
    · simp
    · simp
      omega
theorem few1 {f : Str} {v : V} : (putF f v []).length < 1000 := Nat.lt_of_le_of_lt (putF_le _ _ _) (by decide)
theorem few2 {f g : Str} {v u : V} : (putF g u (putF f v [])).length < 1000 := by
  have h1 := putF_le f v []
  have h2 := putF_le g u (putF f v [])
  simp at h1
  omega
theorem few3 {f g h : Str} {v u t : V} : (putF h t (putF g u (putF f v []))).length < 1000 := by
  have h1 := putF_le f v []
  have h2 := putF_le g u (putF f v [])
  have h3 := putF_le h t (putF g u (putF f v []))
  simp at h1
  omega
theorem few4 {f g h i : Str} {v u t w : V} : (putF i w (putF h t (putF g u (putF f v [])))).length < 1000 := by
  have h1 := putF_le f v []
  have h2 := putF_le g u (putF f v [])
  have h3 := putF_le h t (putF g u (putF f v []))
  have h4 := putF_le i w (putF h t (putF g u (putF f v [])))
  simp at h1
  omega
theorem few5 {f g h i j : Str} {v u t w x : V} : (putF j x (putF i w (putF h t (putF g u (putF f v []))))).length < 1000 := by
  have h1 := putF_le f v []
  have h2 := putF_le g u (putF f v [])
  have h3 := putF_le h t (putF g u (putF f v []))
  have h4 := putF_le i w (putF h t (putF g u (putF f v [])))
  have h5 := putF_le j x (putF i w (putF h t (putF g u (putF f v []))))
  simp at h1
  omega
theorem putStep (st : Int) (d m : V) (e : Int) : putF "end" (.int e) (putF "moves" m (putF "deed" d (putF "start" (.int st) []))) = stepFs st d m e := by
  first | rfl | simp [putF, stepFs]
def codeFs (t : V) : List (Str × V) := [("steps", t)]
def ranFs (v t p : Int) : List (Str × V) := [("value", .int v), ("turns", .int t), ("pieces", .int p)]
theorem putRan (v t p : Int) : putF "pieces" (.int p) (putF "turns" (.int t) (putF "value" (.int v) [])) = ranFs v t p := by
  first | rfl | simp [putF, ranFs]
theorem codeFs_steps {t} : (codeFs t).lookup ("steps" : Str) = some t := by
  first | rfl | simp [codeFs, List.lookup] | decide
theorem ranFs_value {v t p} : (ranFs v t p).lookup ("value" : Str) = some (.int v) := by
  first | rfl | simp [ranFs, List.lookup] | decide
theorem ranFs_turns {v t p} : (ranFs v t p).lookup ("turns" : Str) = some (.int t) := by
  first | rfl | simp [ranFs, List.lookup] | decide
theorem ranFs_pieces {v t p} : (ranFs v t p).lookup ("pieces" : Str) = some (.int p) := by
  first | rfl | simp [ranFs, List.lookup] | decide
/-- lists and tuples stay where an instance alone is changed -/
theorem kp_ins {H H' : Hp} {x C dx : Addr} {fs : List (Str × V)} (hx : H x = some (.ins C dx fs)) (e : Sx (· = x) H H') : Kp H H' := e.kp fun b hb => by
  obtain rfl : b = x := hb
  rw [hx]
  exact ⟨fun xs q => (by cases q), fun xs q => (by cases q)⟩
section
variable {P : Program} {w : World} {K : PySem.W.Frag} {mg : Str → Option Value} {base : Heap}
def spStepInit (C : Addr) : Sp := fun vs H Q _ => ∃ (x dx : Addr) (st e : Int) (dv mv : V) (dd md : PyData), vs = [.ref x, .int st, dv, mv, .int e] ∧ H x = some (.ins C dx []) ∧ Da H dd dv ∧ fit 4 dd ∧ Da H md mv ∧ fit 4 md ∧
  ∀ H' d m, Sx (· = x) H H' → H' x = some (.ins C dx (stepFs st d m e)) → Da H' (asT dd) d → Da H' (asT md) m → Q .non H'
abbrev nSI : List Str := ["self", "start", "deed", "moves", "end"]
theorem sc_Step_init : FnScope nSI nSI (defScope s_StepD_initD) := ⟨rfl, rfl, rfl, by decide +kernel, rfl, by decide +kernel, by decide +kernel⟩
theorem ma_Step (T : Tx K mg) : Ma P w K mg base CX0 7 "Step" (He.ga K "Step") (spStepInit (He.ga K "Step")) := by
  refine ma0 T.f_StepD_initD T.k_Step T.m_Step sc_Step_init (fun _ _ _ _ _ _ us hl => match us, hl with | [_, _, _, _, _], _ => rfl) (fun vs H Q E h => ?_) (fun cdv A outer s H vs Q E hr h => ?_)
  · obtain ⟨x, dx, st, e, dv, mv, dd, md, rfl, _⟩ := h
    rfl
  · obtain ⟨x, dx, st, e, dv, mv, dd, md, rfl, hx, hd, fd, hm, fm, k⟩ := h
    have c1 := ca_as_tuples (P := P) (w := w) (base := base) T 4
    refine ⟨_, pss_cons (ps_fld (pv 0) (pe_ca c1 hr (pa_cons (pv 1) pa_nil)) rfl) (pss_cons (ps_fld (pv 0) (pe_ca c1 hr (pa_cons (pv 2) pa_nil)) rfl) (pss_cons (ps_fld (pv 0) (pe_ca c1 hr (pa_cons (pv 3) pa_nil)) rfl) (pss_one (ps_fld (pv 0) (pe_ca c1 hr (pa_cons (pv 4) pa_nil)) rfl)))), ?_⟩
    have fint : ∀ i : Int, fit 4 (.int i) := fun i ds h => by rcases h with h | h <;> cases h
    refine ⟨_, rfl, _, rfl, asT_da 4 (d := .int st) (fint _) (Da.int.mpr rfl) fun H1 y s1 h1 => ?_⟩
    obtain rfl : y = .int st := by simpa only [asT, Da] using h1
    have x1 := s1 _ _ hx
    refine ⟨_, rfl, x, _, dx, _, rfl, x1, T.c_Step, T.n_Step_start, (by decide), ?_⟩
    have e1 : Sx (· = x) H (upd H1 x (.ins (He.ga K "Step") dx (putF "start" (.int st) []))) := (Sx.ofSame s1).at rfl
    refine ⟨_, rfl, _, rfl, asT_da 4 fd (hd.kp (kp_ins hx e1)) fun H2 d s2 h2 => ?_⟩
    have x2 := s2 _ _ (upd_same (H := H1) (a := x) (o := .ins (He.ga K "Step") dx (putF "start" (.int st) [])))
    refine ⟨_, rfl, x, _, dx, _, rfl, x2, T.c_Step, T.n_Step_deed, few1, ?_⟩
    have e2 : Sx (· = x) H (upd H2 x (.ins (He.ga K "Step") dx (putF "deed" d (putF "start" (.int st) [])))) := (e1.trans (Sx.ofSame s2)).at rfl
    refine ⟨_, rfl, _, rfl, asT_da 4 fm (hm.kp (kp_ins hx e2)) fun H3 m s3 h3 => ?_⟩
    have x3 := s3 _ _ (upd_same (H := H2) (a := x) (o := .ins (He.ga K "Step") dx (putF "deed" d (putF "start" (.int st) []))))
    refine ⟨_, rfl, x, _, dx, _, rfl, x3, T.c_Step, T.n_Step_moves, few2, ?_⟩
    have e3 : Sx (· = x) H (upd H3 x (.ins (He.ga K "Step") dx (putF "moves" m (putF "deed" d (putF "start" (.int st) []))))) := (e2.trans (Sx.ofSame s3)).at rfl
    refine ⟨_, rfl, _, rfl, asT_da 4 (d := .int e) (fint _) (Da.int.mpr rfl) fun H4 y s4 h4 => ?_⟩
    obtain rfl : y = .int e := by simpa only [asT, Da] using h4
    have x4 := s4 _ _ (upd_same (H := H3) (a := x) (o := .ins (He.ga K "Step") dx (putF "moves" m (putF "deed" d (putF "start" (.int st) [])))))
    refine ⟨_, rfl, x, _, dx, _, rfl, x4, T.c_Step, T.n_Step_end, few3, ?_⟩
    have g2 : Sx (· = x) H2 (upd H2 x (.ins (He.ga K "Step") dx (putF "deed" d (putF "start" (.int st) [])))) := (Sx.refl _ _).at rfl
    have g3 := (g2.trans (Sx.ofSame s3)).at (o := .ins (He.ga K "Step") dx (putF "moves" m (putF "deed" d (putF "start" (.int st) [])))) rfl
    have g4 := (g3.trans (Sx.ofSame s4)).at (o := .ins (He.ga K "Step") dx (stepFs st d m e)) rfl
    have m3 : Sx (· = x) H3 _ := (Sx.refl (· = x) H3).at (o := .ins (He.ga K "Step") dx (putF "moves" m (putF "deed" d (putF "start" (.int st) [])))) rfl
    have m4 := (m3.trans (Sx.ofSame s4)).at (o := .ins (He.ga K "Step") dx (stepFs st d m e)) rfl
    rw [putStep]
    exact k _ d m ((e3.trans (Sx.ofSame s4)).at rfl) upd_same (h2.kp (kp_ins x2 g4)) (h3.kp (kp_ins x3 m4))
def spCodeInit (C CS : Addr) : Sp := fun vs H Q _ => ∃ (x dx a : Addr) (as : List Addr), vs = [.ref x, .ref a] ∧ H x = some (.ins C dx []) ∧ RowAt H a (as.map V.ref) ∧ as.length ≤ 1000 ∧ (∀ b ∈ as, ∃ dy fs, H b = some (.ins CS dy fs)) ∧
  ∀ H' t, Sx (· = x) H H' → H' x = some (.ins C dx (codeFs (.ref t))) → H' t = some (.tup (as.map V.ref)) → Q .non H'
abbrev nCI : List Str := ["self", "steps"]
theorem sc_Code_init : FnScope nCI nCI (defScope s_CodeD_initD) := ⟨rfl, rfl, rfl, by decide +kernel, rfl, by decide +kernel, by decide +kernel⟩
theorem ma_Code (T : Tx K mg) : Ma P w K mg base CX0 4 "Code" (He.ga K "Code") (spCodeInit (He.ga K "Code") (He.ga K "Step")) := by
  refine ma0 T.f_CodeD_initD T.k_Code T.m_Code sc_Code_init (fun _ _ _ _ _ _ us hl => match us, hl with | [_, _], _ => rfl) (fun vs H Q E h => ?_) (fun cdv A outer s H vs Q E hr h => ?_)
  · obtain ⟨x, dx, a, as, rfl, _⟩ := h
    rfl
  · obtain ⟨x, dx, a, as, rfl, hx, ha, hl, hi, k⟩ := h
    have c1 := ca_as_tuples (P := P) (w := w) (base := base) T 1
    refine ⟨_, pss_one (ps_fld (pv 0) (pe_ca c1 hr (pa_cons (pv 1) pa_nil)) rfl), ?_⟩
    refine ⟨_, rfl, _, rfl, asT_ins ha (by rw [List.length_map]; exact hl) (fun y hy => ?_) fun H1 b s1 h1 => ?_⟩
    · obtain ⟨c, hc, rfl⟩ := List.mem_map.mp hy
      obtain ⟨dy, fs, h2⟩ := hi c hc
      exact .ins h2 T.i_Step
    · refine ⟨_, rfl, x, _, dx, _, rfl, s1 _ _ hx, T.c_Code, T.n_Code_steps, (by decide), ?_⟩
      have nbx : b ≠ x := ne_of h1 (s1 _ _ hx) (by intro q; cases q)
      exact k _ b ((Sx.ofSame s1).at rfl) upd_same (by rw [upd_ne nbx]; exact h1)
def spRanInit (C : Addr) : Sp := fun vs H Q _ => ∃ (x dx : Addr) (v t p : Int), vs = [.ref x, .int v, .int t, .int p] ∧ H x = some (.ins C dx []) ∧ ∀ H', Sx (· = x) H H' → H' x = some (.ins C dx (ranFs v t p)) → Q .non H'
abbrev nRI : List Str := ["self", "value", "turns", "pieces"]
theorem sc_Ran_init : FnScope nRI nRI (defScope s_RanD_initD) := ⟨rfl, rfl, rfl, by decide +kernel, rfl, by decide +kernel, by decide +kernel⟩
theorem ma_Ran (T : Tx K mg) : Ma P w K mg base CX0 3 "Ran" (He.ga K "Ran") (spRanInit (He.ga K "Ran")) := by
  refine ma0 T.f_RanD_initD T.k_Ran T.m_Ran sc_Ran_init (fun _ _ _ _ _ _ us hl => match us, hl with | [_, _, _, _], _ => rfl) (fun vs H Q E h => ?_) (fun cdv A outer s H vs Q E hr h => ?_)
  · obtain ⟨x, dx, v, t, p, rfl, _⟩ := h
    rfl
  · obtain ⟨x, dx, v, t, p, rfl, hx, k⟩ := h
    have c1 := ca_as_tuples (P := P) (w := w) (base := base) T 0
    refine ⟨_, pss_cons (ps_fld (pv 0) (pe_ca c1 hr (pa_cons (pv 1) pa_nil)) rfl) (pss_cons (ps_fld (pv 0) (pe_ca c1 hr (pa_cons (pv 2) pa_nil)) rfl) (pss_one (ps_fld (pv 0) (pe_ca c1 hr (pa_cons (pv 3) pa_nil)) rfl))), ?_⟩
    have fint : ∀ i : Int, fit 0 (.int i) := fun i => rfl
    refine ⟨_, rfl, _, rfl, asT_da 0 (d := .int v) (fint _) (Da.int.mpr rfl) fun H1 y s1 h1 => ?_⟩
    obtain rfl : y = .int v := by simpa only [asT, Da] using h1
    refine ⟨_, rfl, x, _, dx, _, rfl, s1 _ _ hx, T.c_Ran, T.n_Ran_value, (by decide), ?_⟩
    refine ⟨_, rfl, _, rfl, asT_da 0 (d := .int t) (fint _) (Da.int.mpr rfl) fun H2 y s2 h2 => ?_⟩
    obtain rfl : y = .int t := by simpa only [asT, Da] using h2
    refine ⟨_, rfl, x, _, dx, _, rfl, s2 _ _ upd_same, T.c_Ran, T.n_Ran_turns, few1, ?_⟩
    refine ⟨_, rfl, _, rfl, asT_da 0 (d := .int p) (fint _) (Da.int.mpr rfl) fun H3 y s3 h3 => ?_⟩
    obtain rfl : y = .int p := by simpa only [asT, Da] using h3
    refine ⟨_, rfl, x, _, dx, _, rfl, s3 _ _ upd_same, T.c_Ran, T.n_Ran_pieces, few2, ?_⟩
    rw [putRan]
    have e1 := (Sx.ofSame (M := (· = x)) s1).at (o := .ins (He.ga K "Ran") dx (putF "value" (.int v) [])) rfl
    have e2 := (e1.trans (Sx.ofSame s2)).at (o := .ins (He.ga K "Ran") dx (putF "turns" (.int t) (putF "value" (.int v) []))) rfl
    exact k _ ((e2.trans (Sx.ofSame s3)).at rfl) upd_same
end
end K48

/-! own rules: == of tuples of any two lengths whose common items are equal; == of two instances with its answer -/
namespace PySem
namespace GX
open PySem.W PyProof PyProof.Rows
section
variable {prog : Program} {w : World} {A : Around} {R : Result → Shared → Prop}
theorem tup_eqN (l b : Addr) (xs ys : Array Value) (n n2 : Nat) (dd dd2 : Option Addr) (sl sl2 : Array (Option Value)) (I : Nat → Shared → Prop)
    (turn : ∀ i (h1 : i < xs.size) (h2 : i < ys.size) s, I i s → wpAny (model prog w) A.in1 (eqBool xs[i] ys[i]) (fun r s' => r = true ∧ I (i + 1) s') (fun e s' => R (.error e) s') s)
    (fin : ∀ s, I (min xs.size ys.size) s → R (.ok (.ret (.bool (xs.size == ys.size)))) s) {s : Shared} (hl : s.heap.get? l = some { cls := .type "tuple", dict := dd, data := .seq xs n, slots := sl }) (hb : s.heap.get? b = some { cls := .type "tuple", dict := dd2, data := .seq ys n2, slots := sl2 }) (h : I 0 s) :
    wpAny (model prog w) A.in1 (Builtin.«tuple.__eq__» ⟨[.ref l, .ref b], []⟩) (GQ.FinOf prog w A R) (fun e s' => R (.error e) s') s := by
  have f2 := AutoSeq1.sub_tuple_tuple
  have hZ : (xs.toList.zip ys.toList).length = min xs.size ys.size := by rw [List.length_zip]; simp
  have h0 := h
  obtain ⟨hp, g, d, tk, os⟩ := s
  wp_walk using wpAny_loadPart' hl, wpAny_loadPart' hb, wpAny_forIn_list _ (fun rest b s' => b.1 = none ∧ ∃ i, rest = (xs.toList.zip ys.toList).drop i ∧ i ≤ min xs.size ys.size ∧ I i s') _
  case turn =>
    rintro ⟨y, x⟩ rest b s' ⟨hb', i, hz, hi, hI⟩
    have hlt : i < (xs.toList.zip ys.toList).length := by
      rcases Nat.lt_or_ge i (xs.toList.zip ys.toList).length with q | q
      · exact q
      · rw [List.drop_of_length_le q] at hz; cases hz
    have h1 : i < xs.size := by omega
    have h2 : i < ys.size := by omega
    rw [List.drop_eq_getElem_cons hlt] at hz
    injection hz with hyx hrest
    have hy : y = xs[i] := by have := congrArg Prod.fst hyx; simpa using this
    have hx : x = ys[i] := by have := congrArg Prod.snd hyx; simpa using this
    subst hy hx
    refine wpAny_bind (wpAny_mono (turn i h1 h2 s' hI) (fun r s2 q2 => ?_) fun _ _ z => z)
    obtain ⟨hr, q2⟩ := q2
    subst hr
    wp_walk
    exact ⟨rfl, i + 1, hrest, by omega, q2⟩
  case fin =>
    rintro ⟨b1, b2⟩ s' ⟨hb', i, hz, hi, hI⟩
    simp only at hb'
    subst hb'
    have hge : min xs.size ys.size ≤ i := by
      rcases Nat.lt_or_ge i (xs.toList.zip ys.toList).length with q | q
      · rw [List.drop_eq_getElem_cons q] at hz; cases hz
      · rw [← hZ]; exact q
    have hi' : i = min xs.size ys.size := by omega
    have hR := fin s' (hi' ▸ hI)
    wp_walk
    simpa [Builtin.Tuple.tupleCompareSizes] using hR
  case h =>
    exact ⟨rfl, 0, rfl, Nat.zero_le _, h0⟩
end
section
variable {prog : Program} {w : World} {A : Around} {E : Value → Shared → Prop} {s : Shared}
theorem rc_tupN {l b : Addr} {xs ys : Array Value} {Q : Value → Shared → Prop} (hu : A.units < cLine) (I : Nat → Shared → Prop) (hl : s.heap.IsTuple l xs) (hb : s.heap.IsTuple b ys)
    (turn : ∀ i (h1 : i < xs.size) (h2 : i < ys.size) s, I i s → wpAny (model prog w) A.in1 (eqBool xs[i] ys[i]) (fun r s' => r = true ∧ I (i + 1) s') E s)
    (fin : ∀ s, I (min xs.size ys.size) s → Q (.bool (xs.size == ys.size)) s) (h : I 0 s) : wpAny (model prog w) A (richCompare .Eq (.ref l) (.ref b)) Q E s := by
  obtain ⟨⟨cls, dd, data, sl⟩, ho, hc, n, hd⟩ := id hl
  obtain ⟨⟨cls2, dd2, data2, sl2⟩, ho2, hc2, n2, hd2⟩ := id hb
  simp only at hc hd hc2 hd2
  subst hc hd hc2 hd2
  refine wpAny_richCompare_same_room (op := .Eq) ⟨_, ho, rfl⟩ ⟨_, ho2, rfl⟩ F.slot_tuple_eq (GQ.call_here F.slot_tuple_eq ⟨_, ho, rfl⟩ F.entry_tuple_eq (F.args_tuple_eq_2 _ _) ?_) hu
  exact tup_eqN (R := wants (fun v s' => v ≠ .notImplemented ∧ Q v s') E) l b xs ys n n2 dd dd2 sl sl2 I turn (fun s' q => ⟨(fun x => nomatch x), fin s' q⟩) ho ho2 h
end
end GX
end PySem
namespace K48
open PySem PySem.Spec PyProof.Rows L2
/-- the items that both have are equal by D -/
def PrN (D : Eqv) (xs ys : List V) (H : Hp) : Prop := ∀ (i : Nat) x y, xs[i]? = some x → ys[i]? = some y → D x y H
def rEqN (K : PySem.W.Frag) (D : Eqv) : R2 := fun x y H Q => ∃ (a b : Addr) (xs ys : List V), x = .ref a ∧ y = .ref b ∧ SqT K H a xs ∧ SqT K H b ys ∧ PrN D xs ys H ∧ ∀ H', Ext H H' → Q (.bl (xs.length == ys.length)) H'
theorem op_eqN {X : Cx} {n : Nat} {D : Eqv} (hD : Mon D) (h : EqG X n D) (hr : Room (n + 1) X.A) : OpR X (compareOp .Eq) (rEqN X.K D) := by
  intro pins s σ H x y v u Q I rx ry hq
  obtain ⟨a, b, xs, ys, rfl, rfl, ha, hb, p, k⟩ := hq
  cases rx
  cases ry
  obtain ⟨its, r, e, z⟩ := I.tuple ha
  obtain ⟨its2, r2, e2, z2⟩ := I.tuple hb
  have sb : Sub X (n + 1) X.A := ⟨hr, rfl⟩
  show wpAny (model X.prog X.w) X.A (richCompare .Eq (.ref a) (.ref b)) (EP X pins σ Q) X.xe s
  refine PySem.GX.rc_tupN hr.units0 (fun _ s' => LoopI X pins σ H s') e e2 (fun i h1 h2 s' l => ?_) (fun s' l => ?_) ⟨H, I, Ext.rfl'⟩
  · obtain ⟨H1, I1, e1⟩ := l
    have k1 : i < xs.length := by rw [r.length]; simpa using h1
    have k2 : i < ys.length := by rw [r2.length]; simpa using h2
    obtain ⟨u, hu, ru⟩ := r.get (List.getElem?_eq_getElem k1)
    obtain ⟨v, hv, rv⟩ := r2.get (List.getElem?_eq_getElem k2)
    have g1 : its[i]? = some its.toArray[i] := by
      have q : i < its.length := by simpa using h1
      rw [List.getElem?_eq_getElem q] <;> simp
    have g2 : its2[i]? = some its2.toArray[i] := by
      have q : i < its2.length := by simpa using h2
      rw [List.getElem?_eq_getElem q] <;> simp
    rw [g1] at hu
    rw [g2] at hv
    rw [Option.some.inj hu, Option.some.inj hv]
    refine wpAny_mono (h X.A.in1 pins s' σ H1 _ _ u v sb.in1 I1 ru rv (hD _ _ _ _ e1 (p i _ _ (List.getElem?_eq_getElem k1) (List.getElem?_eq_getElem k2)))) (fun r s2 q => ?_) fun _ _ x => x
    obtain ⟨hr', H2, I2, e2⟩ := q
    exact ⟨hr', H2, I2, e1.trans e2⟩
  · obtain ⟨H1, I1, e1⟩ := l
    have el : (its.toArray.size == its2.toArray.size) = (xs.length == ys.length) := by rw [List.size_toArray, List.size_toArray, r.length, r2.length]
    rw [el]
    exact ⟨.bl _, H1, I1, rfl, k H1 e1⟩
/-- a == b, two instances of a class with the text's own == -/
def rEqI (C : Addr) (sp : Sp) : R2 := fun x y H Q => ∃ a b dx dy fs gs, x = .ref a ∧ y = .ref b ∧ H a = some (.ins C dx fs) ∧ H b = some (.ins C dy gs) ∧ sp [.ref a, .ref b] H (fun v H' => ∃ c, v = .bl c ∧ Q v H') E0
theorem op_eqI {X : Cx} {n : Nat} {C : Addr} {sp : Sp} (m : Me X.prog X.w X.K X.mg X.base CX0 n C "__eq__" sp) (hr : Room n X.A) : OpR X (compareOp .Eq) (rEqI C sp) := by
  intro pins s σ H x y v u Q I rx ry hq
  obtain ⟨a, b, dx, dy, fs, gs, rfl, rfl, ha, hb', hsp⟩ := hq
  obtain ⟨f, fd, ps, hc, hm, F, hb⟩ := m.ex
  cases rx
  cases ry
  obtain ⟨mA, J, _⟩ := ins_get I.hok ha
  obtain ⟨mB, J', _⟩ := ins_get I.hok hb'
  obtain ⟨od, J, _⟩ := J.look
  obtain ⟨od', J', _⟩ := J'.look
  obtain ⟨m, hF⟩ := I.fr
  show wpAny (model X.prog X.w) X.A (richCompare .Eq (.ref a) (.ref b)) (EP X pins σ Q) X.xe s
  refine PySem.W.cmp_K (op := .Eq) (tb := .ref C) hr.units0 hF I.ok.mod.kin J J'.type (by simp [PySem.W.notFirst]) hm.at_ hm.fn ?_
  have hl := F.len _ _ _ _ hsp
  have r2 : Vals [V.ref a, V.ref b] [Value.ref a, Value.ref b] := .cons rfl (.cons rfl .nil)
  refine wpAny_call (codeAny_mono (F.run X.A X.stack s H ⟨[.ref a, .ref b], []⟩ [.ref a, .ref b] [.ref a, .ref b] _ E0 hr I.env0 (by
    have := hb s [.ref a, .ref b] I.kIn (by simpa using hl)
    simpa using this) r2 hsp) fun r s' hq => ?_)
  cases r with
  | error e => exact hq.elim
  | ok fl =>
    cases fl with
    | ret w =>
      obtain ⟨z, H', I', rz, c, ez, q⟩ := I.after hq
      subst ez
      cases rz
      exact ⟨.bl c, H', I', rfl, q⟩
    | next => exact False.elim hq
    | brk => exact False.elim hq
    | cont => exact False.elim hq
end K48

namespace K48
open PySem PySem.Spec PyProof.Rows L2
/-- a Step of any data -/
structure StD where
  st : Int
  d : PyData
  m : PyData
  e : Int
def StD.all (s : StD) : PyData := .tuple [.int s.st, s.d, s.m, .int s.e]
def StepD (C : Addr) (H : Hp) (a : Addr) (s : StD) : Prop := ∃ dx d m, H a = some (.ins C dx (stepFs s.st d m s.e)) ∧ Da H s.d d ∧ Da H s.m m
theorem StepD.same {C : Addr} {H H' : Hp} (e : Same H H') {a : Addr} {s : StD} (h : StepD C H a s) : StepD C H' a s := by
  obtain ⟨dx, d, m, h1, h2, h3⟩ := h
  exact ⟨dx, d, m, e _ _ h1, h2.kp (Kp.of e), h3.kp (Kp.of e)⟩
def Sp1.sd (s : Sp1) : StD := ⟨s.start, s.deed.d, .tuple (s.moves.map mvd), s.fin⟩
theorem StepAt.sd {C : Addr} {H : Hp} {a : Addr} {s : Sp1} (h : StepAt C H a s) : StepD C H a s.sd := h
section
variable {P : Program} {w : World} {K : PySem.W.Frag} {mg : Str → Option Value} {base : Heap}
def spStepEq (C : Addr) : Sp := fun vs H Q _ => ∃ (a b : Addr) (s t : StD), vs = [.ref a, .ref b] ∧ StepD C H a s ∧ StepD C H b t ∧ SeqAt.shaped s.all = true ∧ SeqAt.shaped t.all = true ∧ ∀ H', Same H H' → Q (.bl (PyData.eqv s.all t.all)) H'
abbrev nEQ : List Str := ["self", "other"]
theorem sc_Step_eq : FnScope nEQ nEQ (defScope s_StepD_eqD) := ⟨rfl, rfl, rfl, by decide +kernel, rfl, by decide +kernel, by decide +kernel⟩
theorem me_Step_eq (T : Tx K mg) : Me P w K mg base CX0 1 (He.ga K "Step") "__eq__" (spStepEq (He.ga K "Step")) := by
  refine me0 T.f_StepD_eqD T.c_Step T.e_Step sc_Step_eq (fun _ _ _ _ _ _ us hl => match us, hl with | [_, _], _ => rfl) (fun vs H Q E h => ?_) (fun cdv A outer s H vs Q E hr h => ?_)
  · obtain ⟨a, b, s, t, rfl, _⟩ := h
    rfl
  · obtain ⟨a, b, z, t, rfl, ⟨dx, d, m, h1, h2, h3⟩, ⟨dy, d', m', g1, g2, g3⟩, sh1, sh2, k⟩ := h
    have f4 : ∀ (i : Nat), True := fun _ => trivial
    refine ⟨_, pss_cons (ps_if (pt_not (pt_val (pe_callB (C8.call_isC T.i_Step.i) (by rfl) T.z_isinstance (by decide +kernel) (pa_cons (pv 1) (pa_cons (pe_glob (v := .ref (He.ga K "Step")) (by rfl) T.m_Step rfl) pa_nil))))) (pss_one ps_never) pss_nil)
      (pss_one (ps_ret (pe_cmpR (op_eqD hr.units) (pe_tup (pa_cons (pe_fld (pv 0) rfl) (pa_cons (pe_fld (pv 0) rfl) (pa_cons (pe_fld (pv 0) rfl) (pa_cons (pe_fld (pv 0) rfl) pa_nil))))) (pe_tup (pa_cons (pe_fld (pv 1) rfl) (pa_cons (pe_fld (pv 1) rfl) (pa_cons (pe_fld (pv 1) rfl) (pa_cons (pe_fld (pv 1) rfl) pa_nil))))) (nomark _)))), ?_⟩
    refine ⟨_, rfl, b, dy, _, rfl, g1, _, rfl, if_f rfl ?_⟩
    refine ⟨_, rfl, a, _, dx, _, _, rfl, h1, T.c_Step, T.n_Step_start, stepFs_start, _, rfl, a, _, dx, _, _, rfl, h1, T.c_Step, T.n_Step_deed, stepFs_deed, _, rfl, a, _, dx, _, _, rfl, h1, T.c_Step, T.n_Step_moves, stepFs_moves, _, rfl, a, _, dx, _, _, rfl, h1, T.c_Step, T.n_Step_end, stepFs_end, (by show 4 ≤ sizeLine; decide), fun p np => ?_⟩
    have s1 := same_new (o := .tup [.int z.st, d, m, .int z.e]) np
    refine ⟨_, rfl, b, _, dy, _, _, rfl, s1 _ _ g1, T.c_Step, T.n_Step_start, stepFs_start, _, rfl, b, _, dy, _, _, rfl, s1 _ _ g1, T.c_Step, T.n_Step_deed, stepFs_deed, _, rfl, b, _, dy, _, _, rfl, s1 _ _ g1, T.c_Step, T.n_Step_moves, stepFs_moves, _, rfl, b, _, dy, _, _, rfl, s1 _ _ g1, T.c_Step, T.n_Step_end, stepFs_end, (by show 4 ≤ sizeLine; decide), fun q nq => ?_⟩
    have s2 := same_upd (o := .tup [.int t.st, d', m', .int t.e]) s1 (s1.free nq)
    have npq : p ≠ q := fun e => by
      rw [← e, upd_same] at nq
      cases nq
    refine ⟨z.all, t.all, ?_, ?_, sh1, sh2, k _ s2⟩
    · refine Da.dp (Da.tup.mpr ⟨p, _, rfl, by rw [upd_ne npq]; exact upd_same, ?_⟩)
      exact DaL.cons.mpr ⟨_, _, rfl, Da.int.mpr rfl, DaL.cons.mpr ⟨_, _, rfl, h2.kp (Kp.of s2), DaL.cons.mpr ⟨_, _, rfl, h3.kp (Kp.of s2), DaL.cons.mpr ⟨_, _, rfl, Da.int.mpr rfl, DaL.nil.mpr rfl⟩⟩⟩⟩
    · refine Da.dp (Da.tup.mpr ⟨q, _, rfl, upd_same, ?_⟩)
      exact DaL.cons.mpr ⟨_, _, rfl, Da.int.mpr rfl, DaL.cons.mpr ⟨_, _, rfl, g2.kp (Kp.of s2), DaL.cons.mpr ⟨_, _, rfl, g3.kp (Kp.of s2), DaL.cons.mpr ⟨_, _, rfl, Da.int.mpr rfl, DaL.nil.mpr rfl⟩⟩⟩⟩
/-- two Steps that are equal -/
def EqSt (C : Addr) : Addr → Addr → Hp → Prop := fun a b H => ∃ s t, StepD C H a s ∧ StepD C H b t ∧ SeqAt.shaped s.all = true ∧ SeqAt.shaped t.all = true ∧ PyData.eqv s.all t.all = true
theorem eqSt_mon {C : Addr} : ∀ a b H H', Ext H H' → EqSt C a b H → EqSt C a b H' := fun a b H H' e ⟨s, t, h1, h2, h3⟩ => ⟨s, t, h1.same e, h2.same e, h3⟩
theorem eqG_step {X : Cx} (T : Tx X.K X.mg) : EqG X 1 (DIns (He.ga X.K "Step") (EqSt (He.ga X.K "Step"))) := by
  obtain ⟨f, fd, ps, hc, hm, F, hb⟩ := (me_Step_eq (P := X.prog) (w := X.w) (base := X.base) T).ex
  exact eqG_ins (E := E0) (F.imp fun vs H Q E ⟨a, b, e, ⟨s, t, h1, h2, h3, h4, h5⟩, k⟩ => ⟨a, b, s, t, e, h1, h2, h3, h4, fun H' s' => by rw [h5]; exact k H' s'⟩) hm.at_ hm.fn hb pass0
/-- a Code at a of the Steps at as -/
def CodeD (C CS : Addr) (H : Hp) (a : Addr) (as : List Addr) : Prop := ∃ dx t, H a = some (.ins C dx (codeFs (.ref t))) ∧ H t = some (.tup (as.map V.ref)) ∧ ∀ b ∈ as, ∃ dy fs, H b = some (.ins CS dy fs)
def spCodeEq (C CS : Addr) : Sp := fun vs H Q _ => ∃ (a b : Addr) (as bs : List Addr), vs = [.ref a, .ref b] ∧ CodeD C CS H a as ∧ CodeD C CS H b bs ∧ (∀ (i : Nat) x y, as[i]? = some x → bs[i]? = some y → EqSt CS x y H) ∧ ∀ H', Same H H' → Q (.bl (as.length == bs.length)) H'
theorem sc_Code_eq : FnScope nEQ nEQ (defScope s_CodeD_eqD) := ⟨rfl, rfl, rfl, by decide +kernel, rfl, by decide +kernel, by decide +kernel⟩
theorem me_Code_eq (T : Tx K mg) : Me P w K mg base CX0 3 (He.ga K "Code") "__eq__" (spCodeEq (He.ga K "Code") (He.ga K "Step")) := by
  refine me0 T.f_CodeD_eqD T.c_Code T.e_Code sc_Code_eq (fun _ _ _ _ _ _ us hl => match us, hl with | [_, _], _ => rfl) (fun vs H Q E h => ?_) (fun cdv A outer s H vs Q E hr h => ?_)
  · obtain ⟨a, b, s, t, rfl, _⟩ := h
    rfl
  · obtain ⟨a, b, as, bs, rfl, ⟨dx, t1, h1, h2, h3⟩, ⟨dy, t2, g1, g2, g3⟩, he, k⟩ := h
    refine ⟨_, pss_cons (ps_if (pt_not (pt_val (pe_callB (C8.call_isC T.i_Code.i) (by rfl) T.z_isinstance (by decide +kernel) (pa_cons (pv 1) (pa_cons (pe_glob (v := .ref (He.ga K "Code")) (by rfl) T.m_Code rfl) pa_nil))))) (pss_one ps_never) pss_nil)
      (pss_one (ps_ret (pe_cmpR (op_eqN (mon_ins eqSt_mon) (eqG_step T) hr) (pe_fld (pv 0) rfl) (pe_fld (pv 1) rfl) (nomark _)))), ?_⟩
    refine ⟨_, rfl, b, dy, _, rfl, g1, _, rfl, if_f rfl ?_⟩
    refine ⟨_, rfl, a, _, dx, _, _, rfl, h1, T.c_Code, T.n_Code_steps, codeFs_steps, _, rfl, b, _, dy, _, _, rfl, g1, T.c_Code, T.n_Code_steps, codeFs_steps, t1, t2, _, _, rfl, rfl, SqT.of h2, SqT.of g2, ?_, fun H' s' => ?_⟩
    · intro i x y hx hy
      rw [List.getElem?_map] at hx hy
      cases qa : as[i]? with
      | none =>
        rw [qa] at hx
        cases hx
      | some xa =>
        cases qb : bs[i]? with
        | none =>
          rw [qb] at hy
          cases hy
        | some yb =>
          rw [qa] at hx
          rw [qb] at hy
          obtain rfl := Option.some.inj hx
          obtain rfl := Option.some.inj hy
          obtain ⟨d1, f1, e1⟩ := h3 xa (List.mem_of_getElem? qa)
          obtain ⟨d2, f2, e2⟩ := g3 yb (List.mem_of_getElem? qb)
          exact ⟨xa, yb, d1, d2, f1, f2, rfl, rfl, e1, e2, he i xa yb qa qb⟩
    · refine q_bl (k H' s') ?_
      rw [List.length_map, List.length_map]
def RanAt (C : Addr) (H : Hp) (a : Addr) (v t p : Int) : Prop := ∃ dx, H a = some (.ins C dx (ranFs v t p))
def spRanEq (C : Addr) : Sp := fun vs H Q _ => ∃ (a b : Addr) (v t p v' t' p' : Int), vs = [.ref a, .ref b] ∧ RanAt C H a v t p ∧ RanAt C H b v' t' p' ∧ ∀ H', Same H H' → Q (.bl (v == v' && (t == t' && p == p'))) H'
theorem sc_Ran_eq : FnScope nEQ nEQ (defScope s_RanD_eqD) := ⟨rfl, rfl, rfl, by decide +kernel, rfl, by decide +kernel, by decide +kernel⟩
theorem me_Ran_eq (T : Tx K mg) : Me P w K mg base CX0 1 (He.ga K "Ran") "__eq__" (spRanEq (He.ga K "Ran")) := by
  refine me0 T.f_RanD_eqD T.c_Ran T.e_Ran sc_Ran_eq (fun _ _ _ _ _ _ us hl => match us, hl with | [_, _], _ => rfl) (fun vs H Q E h => ?_) (fun cdv A outer s H vs Q E hr h => ?_)
  · obtain ⟨a, b, v, t, p, v', t', p', rfl, _⟩ := h
    rfl
  · obtain ⟨a, b, v, t, p, v', t', p', rfl, ⟨dx, h1⟩, ⟨dy, g1⟩, k⟩ := h
    refine ⟨_, pss_cons (ps_if (pt_not (pt_val (pe_callB (C8.call_isC T.i_Ran.i) (by rfl) T.z_isinstance (by decide +kernel) (pa_cons (pv 1) (pa_cons (pe_glob (v := .ref (He.ga K "Ran")) (by rfl) T.m_Ran rfl) pa_nil))))) (pss_one ps_never) pss_nil)
      (pss_one (ps_ret (pe_cmpR (op_eqD hr.units) (pe_tup (pa_cons (pe_fld (pv 0) rfl) (pa_cons (pe_fld (pv 0) rfl) (pa_cons (pe_fld (pv 0) rfl) pa_nil)))) (pe_tup (pa_cons (pe_fld (pv 1) rfl) (pa_cons (pe_fld (pv 1) rfl) (pa_cons (pe_fld (pv 1) rfl) pa_nil)))) (nomark _)))), ?_⟩
    refine ⟨_, rfl, b, dy, _, rfl, g1, _, rfl, if_f rfl ?_⟩
    refine ⟨_, rfl, a, _, dx, _, _, rfl, h1, T.c_Ran, T.n_Ran_value, ranFs_value, _, rfl, a, _, dx, _, _, rfl, h1, T.c_Ran, T.n_Ran_turns, ranFs_turns, _, rfl, a, _, dx, _, _, rfl, h1, T.c_Ran, T.n_Ran_pieces, ranFs_pieces, (by show 3 ≤ sizeLine; decide), fun x nx => ?_⟩
    have s1 := same_new (o := .tup [.int v, .int t, .int p]) nx
    refine ⟨_, rfl, b, _, dy, _, _, rfl, s1 _ _ g1, T.c_Ran, T.n_Ran_value, ranFs_value, _, rfl, b, _, dy, _, _, rfl, s1 _ _ g1, T.c_Ran, T.n_Ran_turns, ranFs_turns, _, rfl, b, _, dy, _, _, rfl, s1 _ _ g1, T.c_Ran, T.n_Ran_pieces, ranFs_pieces, (by show 3 ≤ sizeLine; decide), fun y ny => ?_⟩
    have s2 := same_upd (o := .tup [.int v', .int t', .int p']) s1 (s1.free ny)
    have nxy : x ≠ y := fun e => by
      rw [← e, upd_same] at ny
      cases ny
    refine ⟨.tuple [.int v, .int t, .int p], .tuple [.int v', .int t', .int p'], Da.dp (Da.tup.mpr ⟨x, _, rfl, by rw [upd_ne nxy]; exact upd_same, ?_⟩), Da.dp (Da.tup.mpr ⟨y, _, rfl, upd_same, ?_⟩), by rfl, by rfl, ?_⟩
    · exact DaL.cons.mpr ⟨_, _, rfl, Da.int.mpr rfl, DaL.cons.mpr ⟨_, _, rfl, Da.int.mpr rfl, DaL.cons.mpr ⟨_, _, rfl, Da.int.mpr rfl, DaL.nil.mpr rfl⟩⟩⟩
    · exact DaL.cons.mpr ⟨_, _, rfl, Da.int.mpr rfl, DaL.cons.mpr ⟨_, _, rfl, Da.int.mpr rfl, DaL.cons.mpr ⟨_, _, rfl, Da.int.mpr rfl, DaL.nil.mpr rfl⟩⟩⟩
    · refine q_bl (k _ s2) ?_
      simp [PyData.eqv, PyData.eqvAll]
end
end K48

namespace K48
open PySem PySem.Spec PyProof.Rows L2
/-! ### own exceptions whose __init__ calls their base's -/
theorem oexI_ok {K : PySem.W.Frag} {C : Addr} (q : oexI K C = true) : ∃ nm qn N bs bm sn sub ab col dd k0 k1 k2 k3 k5, K.lookup C = some (excClassObj nm qn C N bs bm true sn sub ab col dd k0 k1 k2 k3 k5 "ValueError.__new__") ∧ PySem.HandSPX.refsVE bm = true := by
  unfold oexI at q
  split at q
  · rename_i dd cd sl ho
    split at q
    · rename_i C' bm k0 k1 k2 k3 n k5 hm hs
      simp only [Bool.and_eq_true, beq_iff_eq, Bool.not_eq_true'] at q
      obtain ⟨rfl, rfl, hdel, hd, hr⟩ := q
      obtain ⟨nm, bs, mro, ns, qn, hdct, sn, sub, ab, col, del⟩ := cd
      dsimp only at hm hdel hd
      subst hm hdel hd
      have hsl : sl = #[k0, k1, k2, k3, some (.builtin "ValueError.__new__"), k5] := by
        obtain ⟨l⟩ := sl
        simp only at hs
        rw [hs]
      subst hsl
      exact ⟨_, _, _, _, _, _, _, _, _, _, _, _, _, _, _, ho, hr⟩
    · exact absurd q (by decide)
  · exact absurd q (by decide)
/-- an own exception class at C, its __init__ at fI -/
structure XcC (K : PySem.W.Frag) (C fI : Addr) : Prop where
  o : OexC K C
  i : PySem.W.findIn K (.ref C) "__init__" = some (some (.ref fI))
  t : PySem.W.typeIn K (.ref fI) = some (.type "function")
  x : XfC K C
  w : PySem.W.findIn K (.ref C) "what" = some none
  v : PySem.W.findIn K (.ref C) "value" = some none
theorem oexB_ok {K : PySem.W.Frag} {C fI : Addr} (h : oexB K C fI = true) : XcC K C fI := by
  obtain ⟨h1, h⟩ := Bool.and_eq_true_iff.mp h
  obtain ⟨h2, h⟩ := Bool.and_eq_true_iff.mp h
  obtain ⟨h3, h⟩ := Bool.and_eq_true_iff.mp h
  obtain ⟨h4, h⟩ := Bool.and_eq_true_iff.mp h
  obtain ⟨h5, h⟩ := Bool.and_eq_true_iff.mp h
  obtain ⟨h6, h⟩ := Bool.and_eq_true_iff.mp h
  obtain ⟨h7, h⟩ := Bool.and_eq_true_iff.mp h
  obtain ⟨h8, h⟩ := Bool.and_eq_true_iff.mp h
  obtain ⟨h9, h10⟩ := Bool.and_eq_true_iff.mp h
  exact ⟨⟨oexI_ok h1, He.eqO_ok h2, of_decide_eq_true h3, of_decide_eq_true h4, h5⟩, He.eqO_ok h6, of_decide_eq_true h7, xfB_ok h8, He.eqO_ok h9, He.eqO_ok h10⟩
structure ViC (K : PySem.W.Frag) (C : Addr) : Prop where
  r : PySem.W.readsIn K C (.type "type") = true
  g : PySem.W.specialIn K (.ref C) "__getattribute__" = some (some (.builtin "type.__getattribute__"))
  f : PySem.W.findCls K (.ref C) (.type "type") "__init__" = some (.val (.builtin "ValueError.__init__"))
theorem viB_ok {K : PySem.W.Frag} {C : Addr} (h : viB K C = true) : ViC K C := by
  obtain ⟨h1, h⟩ := Bool.and_eq_true_iff.mp h
  obtain ⟨h2, h3⟩ := Bool.and_eq_true_iff.mp h
  refine ⟨h1, He.eqO_ok h2, ?_⟩
  split at h3
  · rename_i n hn
    rw [beq_iff_eq.mp h3] at hn
    exact hn
  · exact absurd h3 (by decide)
section
variable {K : PySem.W.Frag} {mg : Str → Option Value}
abbrev cBN (K : PySem.W.Frag) : Addr := He.ga K "BadNumber"
abbrev cBR (K : PySem.W.Frag) : Addr := He.ga K "BadRow"
theorem Tx.ex4 (T : Tx K mg) : (oexB K (cBN K) (He.ma K (cBN K) "__init__") && (oexB K (cBR K) (He.ma K (cBR K) "__init__") && viB K (He.ga K "PointError"))) = true := (Bool.and_eq_true_iff.mp (Bool.and_eq_true_iff.mp (Bool.and_eq_true_iff.mp T.ex).2).2).2
theorem Tx.o_BadNumber (T : Tx K mg) : XcC K (cBN K) (He.ma K (cBN K) "__init__") := oexB_ok (Bool.and_eq_true_iff.mp T.ex4).1
theorem Tx.o_BadRow (T : Tx K mg) : XcC K (cBR K) (He.ma K (cBR K) "__init__") := oexB_ok (Bool.and_eq_true_iff.mp (Bool.and_eq_true_iff.mp T.ex4).2).1
theorem Tx.o_PointError (T : Tx K mg) : ViC K (He.ga K "PointError") := viB_ok (Bool.and_eq_true_iff.mp (Bool.and_eq_true_iff.mp T.ex4).2).2
end
/-- C.__init__(self, ..), found at ValueError -/
theorem pe_piinit {X : Cx} {e : Expr} {es : List Expr} {ta : TA} {p1 p2 pos : Pos} {x : Str} {C : Addr} {pl : Sem Bool} (V : ViC X.K C) (hg : Gl X x) (hm : X.mg x = some (.ref C)) (ha : PA X (e :: es) ta)
    (hc : eval (.Call (.Attribute (.Name x p1) "__init__" p2) (e :: es) [] pos) X.env = (do
      let ov ← eval (.Name x p1) X.env
      standAt p2.atName
      let (f, first) ← holding [ov] (getMethod ov "__init__" pl)
      callWith pos f first (backTo pos (starEach (e :: es) X.env)) (backToKw pos (keywordEach [] X.env))) := by rfl)
    (hdb : (x == ("__debug__" : Str)) = false := by decide) (he : starEach (e :: es) X.env = (false, eval e X.env) :: starEach es X.env := by rfl) (hpl : (backTo pos (starEach es X.env)).any (·.1) = false := by rfl) :
    PE X (.Call (.Attribute (.Name x p1) "__init__" p2) (e :: es) [] pos) (tVeI X.K ta) := by
  refine ⟨fun pins s σ H Q I h => ?_⟩
  refine PySem.W.methodCall_KW (ld_glob I hg hm ?_ hdb) hc
  refine PySem.W.method_cls I.kIn V.g (PySem.W.cls_value I.kIn V.r V.f (by decide +kernel) ?_)
  show wpAny _ _ (callWith pos (Value.builtin "ValueError.__init__") [] (backTo pos (starEach (e :: es) X.env)) []) _ _ _
  refine PyProof.Rows.callWith_method1 (thn (ha.run pos pins _ σ H _ (I.tok _) h) fun us s1 ⟨vs, H1, I1, r1, a, C, ws, ev, hl, T, ea, q⟩ => ?_) he hpl
  subst ev
  cases r1 with
  | @cons _ u0 _ ur ra rw' =>
    obtain rfl : u0 = Value.ref a := ra
    have hlen : ur.length ≤ sizeLine := by
      rw [← Paired.length rw', sizeLine_eq]
      omega
    exact oinit_ok T I1 ea hlen fun s' J => ⟨.non, H1, J, rfl, q⟩
section
variable {P : Program} {w : World} {K : PySem.W.Frag} {mg : Str → Option Value} {base : Heap}
/-! ### their __init__ -/
def spBR (C : Addr) : Sp := fun vs H Q _ => ∃ (a : Addr) (x : V), vs = [.ref a, x] ∧ H a = some (exo a C none) ∧ ∀ d, H d = none → d ≠ a → Q .non (upd (upd H d (exd d [("value", x)])) a (exo a C (some d)))
def spBN (C : Addr) : Sp := fun vs H Q _ => ∃ (a : Addr) (x y : V), vs = [.ref a, x, y] ∧ H a = some (exo a C none) ∧ ∀ d, H d = none → d ≠ a → Q .non (upd (upd (upd H d (exd d [("what", x)])) a (exo a C (some d))) d (exd d [("value", y), ("what", x)]))
theorem sc_BRi : FnScope ["self", "value"] ["self", "value"] (defScope s_BadRowD_initD) := ⟨rfl, rfl, rfl, by decide +kernel, rfl, by decide +kernel, by decide +kernel⟩
theorem sc_BNi : FnScope ["self", "what", "value"] ["self", "what", "value"] (defScope s_BadNumberD_initD) := ⟨rfl, rfl, rfl, by decide +kernel, rfl, by decide +kernel, by decide +kernel⟩
theorem ex_BR (T : Tx K mg) : ∃ (fd : FuncData) (ps : List Str), FnOk P w K mg base CX0 1 (He.ma K (cBR K) "__init__") fd ps (spBR (cBR K)) ∧ Binds K fd ps [] := by
  obtain ⟨fd, F⟩ := T.f_BadRowD_initD
  refine ⟨fd, ["self", "value"], fn0 F sc_BRi (fun vs H Q E h => ?_) (fun cdv A outer s H vs Q E hr h => ?_), F.bindsN (fun _ _ _ _ _ _ us hl => match us, hl with | [_, _], _ => rfl)⟩
  · obtain ⟨a, x, rfl, _⟩ := h
    rfl
  · obtain ⟨a, x, rfl, ha, k⟩ := h
    have c := T.o_BadRow
    refine ⟨_, pss_cons (ps_expr (pe_piinit T.o_PointError (by rfl) T.m_PointError (pa_cons (pv 0) (pa_cons pe_str pa_nil)))) (pss_one (ps_ost (pv 0) (pv 1))), ?_⟩
    refine ⟨_, rfl, a, cBR K, [_], rfl, by decide, c.o, ha, ?_⟩
    exact ⟨_, rfl, _, rfl, a, cBR K, rfl, c.o, c.v, .inl ⟨ha, fun dx n ne => k dx n ne⟩⟩
theorem ex_BN (T : Tx K mg) : ∃ (fd : FuncData) (ps : List Str), FnOk P w K mg base CX0 1 (He.ma K (cBN K) "__init__") fd ps (spBN (cBN K)) ∧ Binds K fd ps [] := by
  obtain ⟨fd, F⟩ := T.f_BadNumberD_initD
  refine ⟨fd, ["self", "what", "value"], fn0 F sc_BNi (fun vs H Q E h => ?_) (fun cdv A outer s H vs Q E hr h => ?_), F.bindsN (fun _ _ _ _ _ _ us hl => match us, hl with | [_, _, _], _ => rfl)⟩
  · obtain ⟨a, x, y, rfl, _⟩ := h
    rfl
  · obtain ⟨a, x, y, rfl, ha, k⟩ := h
    have c := T.o_BadNumber
    refine ⟨_, pss_cons (ps_expr (pe_piinit T.o_PointError (by rfl) T.m_PointError (pa_cons (pv 0) (pa_cons pe_str pa_nil)))) (pss_cons (ps_ost (pv 0) (pv 1)) (pss_one (ps_ost (pv 0) (pv 2)))), ?_⟩
    refine ⟨_, rfl, a, cBN K, [_], rfl, by decide, c.o, ha, ?_⟩
    refine ⟨_, rfl, _, rfl, a, cBN K, rfl, c.o, c.w, .inl ⟨ha, fun dx n ne => ?_⟩⟩
    exact ⟨_, rfl, _, rfl, a, cBN K, rfl, c.o, c.v, .inr ⟨dx, _, upd_same, by rw [upd_ne ne]; exact upd_same, Nat.le_of_lt (by show 1 < 900; omega), k dx n ne⟩⟩
theorem del_upds {H : Hp} {a d : Addr} {o1 o2 : HO} (ha : H a = none) (hd : H d = none) (ne : d ≠ a) (f : List (Str × V)) (o0 : HO) : upd (del (upd (upd (upd H a o0) d o1) a o2) a) d (.xd f) = upd H d (.xd f) := by
  funext b
  by_cases e : b = d
  · rw [e, upd_same, upd_same]
  · rw [upd_ne e, upd_ne e]
    by_cases e2 : b = a
    · rw [e2, del_same, ha]
    · rw [del_ne e2, upd_ne e2, upd_ne e, upd_ne e2]
theorem del_upds2 {H : Hp} {a d : Addr} {o1 o2 o3 : HO} (ha : H a = none) (hd : H d = none) (ne : d ≠ a) (f : List (Str × V)) (o0 : HO) : upd (del (upd (upd (upd (upd H a o0) d o1) a o2) d o3) a) d (.xd f) = upd H d (.xd f) := by
  funext b
  by_cases e : b = d
  · rw [e, upd_same, upd_same]
  · rw [upd_ne e, upd_ne e]
    by_cases e2 : b = a
    · rw [e2, del_same, ha]
    · rw [del_ne e2, upd_ne e, upd_ne e2, upd_ne e, upd_ne e2]
/-- BadRow(x): what is raised -/
theorem rBR {C : Addr} {x : V} {H : Hp} {Q : XK} (k : ∀ d, H d = none → Q (.ref C) (some d) (upd H d (.xd [("value", x)]))) : [x].length ≤ 1000 ∧ ∀ a, H a = none → spBR C (.ref a :: ([x] ++ [])) (upd H a (exo a C none))
    (fun v H2 => v = .non ∧ ∃ (d : Addr) (fs : List (Str × V)), H2 a = some (exo a C (some d)) ∧ H2 d = some (exd d fs) ∧ H d = none ∧ Q (.ref C) (some d) (upd (del H2 a) d (.xd fs))) (fun _ _ _ => False) := by
  refine ⟨by simp, fun a ha => ⟨a, x, rfl, upd_same, fun d hd ne => ?_⟩⟩
  rw [upd_ne ne] at hd
  refine ⟨rfl, d, _, upd_same, by rw [upd_ne ne]; exact upd_same, hd, ?_⟩
  rw [del_upds ha hd ne]
  exact k d hd
theorem rBN {C : Addr} {x y : V} {H : Hp} {Q : XK} (k : ∀ d, H d = none → Q (.ref C) (some d) (upd H d (.xd [("value", y), ("what", x)]))) : [x, y].length ≤ 1000 ∧ ∀ a, H a = none → spBN C (.ref a :: ([x, y] ++ [])) (upd H a (exo a C none))
    (fun v H2 => v = .non ∧ ∃ (d : Addr) (fs : List (Str × V)), H2 a = some (exo a C (some d)) ∧ H2 d = some (exd d fs) ∧ H d = none ∧ Q (.ref C) (some d) (upd (del H2 a) d (.xd fs))) (fun _ _ _ => False) := by
  refine ⟨by simp, fun a ha => ⟨a, x, y, rfl, upd_same, fun d hd ne => ?_⟩⟩
  rw [upd_ne ne] at hd
  refine ⟨rfl, d, _, by rw [upd_ne (Ne.symm ne)]; exact upd_same, upd_same, hd, ?_⟩
  rw [del_upds2 ha hd ne]
  exact k d hd
/-! ### defs that raise -/
abbrev BodyX (P : Program) (w : World) (K : PySem.W.Frag) (mg : Str → Option Value) (base : Heap) (N : List Str) (qual : Str) (st : Stmt) (f : Addr) (k : Nat) (sp : Sp) : Prop :=
  ∀ (cdv : Value) (A : Around) (outer : List Env) (s : Shared) (H : Hp) (vs : List V) (Q : VK) (E : XK), Room k (A.deeper (envOfC qual (defScope st) s.heap.objs.size f cdv)) → sp vs H Q E →
    ∃ t, PSs (cxOf (L2.CX P w) P w K mg base N qual (defScope st) f cdv A outer s H E) (defBody st) t ∧ t { nx := fun _ H' => Q .non H', rt := Q } (start N vs) H
theorem caX {x : Str} {st : Stmt} {f : Addr} {N ps : List Str} {k : Nat} {sp : Sp} (F : ∃ fd, FunD K x x (defArgs st) (defBody st) (defScope st) [] [] f fd) (m : mg x = some (.ref f)) (S : FnScope N ps (defScope st)) (b : BindP x x st ps) (len : ∀ vs H Q E, sp vs H Q E → vs.length = ps.length)
    (hb : BodyX P w K mg base N x st f k sp) : Ca P w K mg base (L2.CX P w) (k + 1) x sp := by
  obtain ⟨fd, F⟩ := F
  exact ⟨f, fd, ps, F.ok S len hb, m, F.kp, F.bindsN b⟩
theorem passX0 {X : Cx} : Passes (L2.CX X.prog X.w) X E0 := fun _ _ _ _ _ _ _ ⟨_, _, _, _, _, _, _, _, _, _, _, _, z⟩ => z.elim
end
/-- f(e, ..), f raises nothing here -/
theorem pe_caG {X : Cx} {k j : Nat} {x : Str} {sp : Sp} {p pos : Pos} {e : Expr} {es : List Expr} {t : TA} (c : Ca X.prog X.w X.K X.mg X.base (L2.CX X.prog X.w) k x sp) (hr : Room j X.A) (ha : PA X (e :: es) t) (hk : k ≤ j := by decide) (hg : Gl X x := by rfl)
    (hdb : (x == ("__debug__" : Str)) = false := by decide) (he : starEach (e :: es) X.env = (false, eval e X.env) :: starEach es X.env := by rfl) (hpl : (backTo pos (starEach es X.env)).any (·.1) = false := by rfl) :
    PE X (.Call (.Name x p) (e :: es) [] pos) (tCall sp [] E0 t) := by
  obtain ⟨f, fd, ps, F, hm, kp, b⟩ := c.ex
  exact pe_call F (hr.mono hk) hg hm kp b .nil passX0 ha hdb he hpl
/-- f(e, ..), what f raises is passed on -/
theorem pe_caE {X : Cx} {k j : Nat} {x : Str} {sp : Sp} {p pos : Pos} {e : Expr} {es : List Expr} {t : TA} (E : XK) (c : Ca X.prog X.w X.K X.mg X.base (L2.CX X.prog X.w) k x sp) (hr : Room j X.A) (tk : Takes X (fun cls d _ H => E cls d H)) (ha : PA X (e :: es) t) (hk : k ≤ j := by decide) (hg : Gl X x := by rfl)
    (hdb : (x == ("__debug__" : Str)) = false := by decide) (he : starEach (e :: es) X.env = (false, eval e X.env) :: starEach es X.env := by rfl) (hpl : (backTo pos (starEach es X.env)).any (·.1) = false := by rfl) :
    PE X (.Call (.Name x p) (e :: es) [] pos) (tCall sp [] E t) := by
  obtain ⟨f, fd, ps, F, hm, kp, b⟩ := c.ex
  exact pe_call F (hr.mono hk) hg hm kp b .nil (passes_call tk fun _ _ _ _ z => z) ha hdb he hpl
section
variable {P : Program} {w : World} {K : PySem.W.Frag} {mg : Str → Option Value} {base : Heap}
/-! check_from_0 -/
def from0 : V → Bool
  | .int i => decide (0 ≤ i)
  | _ => false
def spCheck0 (C : Addr) : Sp := fun vs H Q E => ∃ (wh x : V) (t : String), vs = [wh, x] ∧ Kd H x t ∧ ((from0 x = true ∧ Q .non H) ∨ (from0 x = false ∧ ∀ d, H d = none → E (.ref C) (some d) (upd H d (.xd [("value", x), ("what", wh)]))))
theorem sc_check0 : FnScope ["what", "value"] ["what", "value"] (defScope s_check_from_0) := ⟨rfl, rfl, rfl, by decide +kernel, rfl, by decide +kernel, by decide +kernel⟩
theorem ca_check_from_0 (T : Tx K mg) : Ca P w K mg base (L2.CX P w) 3 "check_from_0" (spCheck0 (cBN K)) := by
  refine caX T.f_check_from_0 T.m_check_from_0 sc_check0 (fun _ _ _ _ _ _ us hl => match us, hl with | [_, _], _ => rfl) (fun vs H Q E h => ?_) (fun cdv A outer s H vs Q E hr h => ?_)
  · obtain ⟨wh, x, t, rfl, _⟩ := h
    rfl
  · obtain ⟨wh, x, t, rfl, hk, k⟩ := h
    have c1 := ca_is_int (P := P) (w := w) (base := base) T
    have o := T.o_BadNumber
    obtain ⟨fd, ps, F1, hb⟩ := ex_BN (P := P) (w := w) (base := base) T
    refine ⟨_, pss_one (ps_if (PW.pt (pw_or (pt_not (pt_val (pe_ca c1 hr (pa_cons (pv 1) pa_nil)))) (pw_or1 (pt_cmpR op_lt (pv 1) pe_int (nomark _)))))
      (pss_one (ps_raise rfl (takes_of rfl rfl rfl rfl) (pmk_oex o.o o.i o.t F1 hr hb .nil pass0 (by rfl) T.m_BadNumber (pa_cons (pv 0) (pa_cons (pv 1) pa_nil))))) pss_nil), ?_⟩
    refine ⟨_, rfl, _, _, rfl, hk, _, rfl, ?_⟩
    have go : from0 x = false → ∀ d, H d = none → E (.ref (cBN K)) (some d) (upd H d (.xd [("value", x), ("what", wh)])) := fun hf => by
      rcases k with ⟨k1, _⟩ | ⟨_, k2⟩
      · rw [hf] at k1
        cases k1
      · exact k2
    cases hk with
    | int i =>
      refine if_f (by decide) ⟨_, rfl, _, _, rfl, rfl, _, rfl, ?_⟩
      rcases k with ⟨k1, k2⟩ | ⟨k1, k2⟩
      · refine if_f (decide_eq_false fun z => ?_) k2
        have k1' : (0 : Int) ≤ i := of_decide_eq_true k1
        omega
      · refine if_t (decide_eq_true ?_) ⟨_, rfl, _, rfl, rBN k2⟩
        have k1' : ¬ (0 : Int) ≤ i := of_decide_eq_false k1
        omega
    | bl b => exact if_t (by decide) (if_t rfl ⟨_, rfl, _, rfl, rBN (go rfl)⟩)
    | str s => exact if_t (by decide) (if_t rfl ⟨_, rfl, _, rfl, rBN (go rfl)⟩)
    | non => exact if_t (by decide) (if_t rfl ⟨_, rfl, _, rfl, rBN (go rfl)⟩)
    | tup e => exact if_t (by decide) (if_t rfl ⟨_, rfl, _, rfl, rBN (go rfl)⟩)
    | lst e => exact if_t (by decide) (if_t rfl ⟨_, rfl, _, rfl, rBN (go rfl)⟩)
end
end K48

namespace K48
open PySem PySem.Spec PyProof.Rows L2
/-! ### len(set(keys)) -/
def mK (k : Key) (acc : List Key) : Bool := acc.any fun x => decide (x = k)
theorem mK_iff {k : Key} {acc : List Key} : mK k acc = true ↔ k ∈ acc := by
  unfold mK
  rw [List.any_eq_true]
  exact ⟨fun ⟨x, h, e⟩ => of_decide_eq_true e ▸ h, fun h => ⟨k, h, decide_eq_true rfl⟩⟩
theorem mK_no {k : Key} {acc : List Key} (h : ¬ k ∈ acc) : mK k acc = false := by
  cases e : mK k acc with
  | false => rfl
  | true => exact absurd (mK_iff.mp e) h
theorem mK_app (j : Key) (a b : List Key) : mK j (a ++ b) = (mK j a || mK j b) := List.any_append
def addK (acc : List Key) (k : Key) : List Key := if mK k acc = true then acc else acc ++ [k]
def dk (ks : List Key) : List Key := ks.foldl addK []
theorem addK_len (acc : List Key) (k : Key) : (addK acc k).length = if mK k acc = true then acc.length else acc.length + 1 := by
  unfold addK
  split
  · rfl
  · rw [List.length_append]
    rfl
theorem addK_mem (acc : List Key) (k j : Key) : (mK j acc || decide (j = k)) = mK j (addK acc k) := by
  unfold addK
  by_cases h : mK k acc = true
  · rw [if_pos h]
    by_cases e : j = k
    · subst e
      rw [h]
      rfl
    · rw [decide_eq_false e, Bool.or_false]
  · rw [if_neg h, mK_app]
    congr 1
    unfold mK
    rw [List.any_cons, List.any_nil, Bool.or_false]
    by_cases e : j = k
    · rw [decide_eq_true e, decide_eq_true e.symm]
    · rw [decide_eq_false e, decide_eq_false fun z => e z.symm]
theorem dk_len_le : ∀ (ks acc : List Key), (ks.foldl addK acc).length ≤ acc.length + ks.length
  | [], acc => by simp
  | k :: r, acc => by
    have := dk_len_le r (addK acc k)
    have h := addK_len acc k
    rw [List.foldl_cons, List.length_cons]
    split at h <;> omega
theorem setOf_congr {prog : Program} {w : World} {h : Heap} {a : Addr} {S S' : Key → Bool} {n n' : Nat} (hS : h.SetOf (mixKind prog w) a S n) (e : ∀ k, S k = S' k) (en : n = n') : h.SetOf (mixKind prog w) a S' n' := by
  have : S = S' := funext e
  subst this
  subst en
  exact hS
theorem dk_nodup : ∀ (ks acc : List Key), acc.Nodup → (ks.foldl addK acc).Nodup
  | [], acc, h => h
  | k :: r, acc, h => dk_nodup r _ (by
    unfold addK
    split
    · exact h
    · rename_i hk
      exact List.nodup_append.mpr ⟨h, by simp, fun a ha b hb => by
        rw [List.mem_singleton.mp hb]
        rintro rfl
        exact hk (mK_iff.mpr ha)⟩)
theorem dk_full : ∀ (ks acc : List Key), (acc ++ ks).Nodup → ks.foldl addK acc = acc ++ ks
  | [], acc, _ => by simp
  | k :: r, acc, h => by
    rw [List.foldl_cons]
    have hk : k ∉ acc := fun hk => (List.nodup_append.mp h).2.2 k hk k (List.mem_cons_self ..) rfl
    have e : addK acc k = acc ++ [k] := if_neg fun z => hk (mK_iff.mp z)
    rw [e, dk_full r (acc ++ [k]) (by simpa using h)]
    simp
theorem dk_short (ks : List Key) (h : ¬ ks.Nodup) : (dk ks).length < ks.length := by
  have go : ∀ (ks acc : List Key), acc.Nodup → ¬ (acc ++ ks).Nodup → (ks.foldl addK acc).length < acc.length + ks.length := by
    intro ks
    induction ks with
    | nil =>
      intro acc ha h
      exact absurd (by simpa using ha) h
    | cons k r ih =>
      intro acc ha h
      rw [List.foldl_cons, List.length_cons]
      by_cases hk : k ∈ acc
      · have e : addK acc k = acc := if_pos (mK_iff.mpr hk)
        rw [e]
        have := dk_len_le r acc
        omega
      · have e : addK acc k = acc ++ [k] := if_neg fun z => hk (mK_iff.mp z)
        have ha' : (acc ++ [k]).Nodup := List.nodup_append.mpr ⟨ha, by simp, fun a haa b hb => by
          rw [List.mem_singleton.mp hb]
          rintro rfl
          exact hk haa⟩
        rw [e]
        have := ih (acc ++ [k]) ha' (by simpa using h)
        rw [List.length_append, List.length_singleton] at this
        omega
  have := go ks [] List.nodup_nil (by simpa using h)
  simpa [dk] using this
theorem dk_len (ks : List Key) (h : ks.Nodup) : (dk ks).length = ks.length := by
  unfold dk
  rw [dk_full ks [] (by simpa using h)]
  rfl
section
variable {prog : Program} {w : World} {A : Around} {R : Result → Shared → Prop} {I : Addr} {fp wr : List Addr} {G : Array GenState → Array GenState → Prop} {n : Nat} {P : Nat → Value → Prop} {St : Nat → Shared → Prop}
theorem loopK (W : WalksS prog w A.in1 I fp wr G n P St) (S : Addr) (hSf : S ∉ fp) (ks : List Key) (hsz : ks.length = n) (hn1 : n ≤ 4000)
    (hval : ∀ i v, P i v → ∃ k, ks[i]? = some k ∧ RelV (kV k) v) :
    ∀ (k i : Nat) (s : Shared), n - i = k → i ≤ n → St i s →
      s.heap.SetOf (mixKind prog w) S (fun k' => mK k' (dk (ks.take i))) (dk (ks.take i)).length →
      (∀ s', Moved (S :: wr) G s s' → s'.heap.SetOf (mixKind prog w) S (fun k' => mK k' (dk (ks.take n))) (dk (ks.take n)).length → R (.ok (.ret .none)) s') →
      codeAny (model prog w) A (.builtin "set.update.loop" ⟨[.ref S, .ref I], []⟩) R s := by
  have hSw : S ∉ wr := fun h => hSf (W.sub _ h)
  have hsub : ∀ b ∈ wr, b ∈ S :: wr := fun b hb => List.mem_cons_of_mem _ hb
  intro k
  induction k with
  | zero =>
    intro i s hk hi hst hS hR
    have hin : i = n := by omega
    subst hin
    refine codeAny_builtin PyProof.Rows.F.entry_set_update_loop ?_
    rw [Around.under_plainId PyProof.Rows.F.plain_set_update_loop _]
    show wpAny _ A.in1 (pyNext (.ref I) >>= _) _ _ s
    refine wpAny_bind (W.done s _ _ hst fun s' hm => ?_)
    show wpAny _ A.in1 (ret Value.none) _ _ s'
    exact wpAny_pure (hR s' (hm.mono hsub) (by
      obtain ⟨o, es, ep, t, ho, rest⟩ := hS
      exact ⟨o, es, ep, t, hm.heap S _ hSw ho, rest⟩))
  | succ k ih =>
    intro i s hk hi hst hS hR
    have hlt : i < n := by omega
    refine codeAny_builtin PyProof.Rows.F.entry_set_update_loop ?_
    rw [Around.under_plainId PyProof.Rows.F.plain_set_update_loop _]
    show wpAny _ A.in1 (pyNext (.ref I) >>= _) _ _ s
    refine wpAny_bind (W.item i s _ _ hlt hst fun v s' hP hst' hm => ?_)
    obtain ⟨key, hkey, rk⟩ := hval i v hP
    have hS' : s'.heap.SetOf (mixKind prog w) S (fun k' => mK k' (dk (ks.take i))) (dk (ks.take i)).length := by
      obtain ⟨o, es, ep, tb, ho, rest⟩ := hS
      exact ⟨o, es, ep, tb, hm.heap S _ hSw ho, rest⟩
    show wpAny _ A.in1 (holding [v] (setAdd S v) >>= _) _ _ s'
    refine wpAny_bind (wpAny_holding ?_)
    unfold setAdd
    refine wpAny_holding ?_
    refine wpAny_bind ((mixKind prog w).pyHash (k := key) (kV_is rk) ?_)
    have hle : (dk (ks.take i)).length ≤ 4000 := by
      have := dk_len_le (ks.take i) []
      rw [List.length_take] at this
      unfold dk
      simp at this ⊢
      omega
    refine wpAny_setAddHashed_of (knd := mixKind prog w) (s := { s' with toks := s'.toks + 1 }) (kV_is rk) (key_scan rk) hS' (by unfold scanBound; omega) fun h' hsb hS2 => ?_
    have et : dk (ks.take (i + 1)) = addK (dk (ks.take i)) key := by
      unfold dk
      rw [List.take_add_one, hkey, List.foldl_append]
      rfl
    have hSi : h'.SetOf (mixKind prog w) S (fun k' => mK k' (dk (ks.take (i + 1)))) (dk (ks.take (i + 1))).length := by
      refine setOf_congr hS2 (fun k' => ?_) ?_
      · rw [et]
        exact addK_mem _ _ _
      · rw [et, addK_len]
    refine wpAny_pure ⟨plainId_quiet PyProof.Rows.F.plain_set_update_loop _, ih (i + 1) _ (by omega) hlt (W.frame _ s' _ _ hst' (Nat.le_succ _) fun b hb o e => ?_) hSi fun s'' hm'' hS'' => ?_⟩
    · rw [hsb.2 b (fun h : b = S => hSf (by rw [← h]; exact hb))]; exact e
    · refine hR s'' (Moved.trans W.gtrans ((hm.mono hsub).then_heap (Nat.le_succ _) fun b o hb e => ?_) hm'') hS''
      rw [hsb.2 b (fun h : b = S => hb (by rw [h]; exact List.mem_cons_self))]; exact e
end
section
variable {prog : Program} {w : World} {A : Around} {E : Value → Shared → Prop} {s : Shared}
theorem call_set_listK {l : Addr} {items : Array Value} {ks : List Key} {Q : Value → Shared → Prop}
    (hh : A.handled = none) (hl : s.heap.IsList l items) (hi : Vals (ks.map kV) items.toList) (hn1 : ks.length ≤ 4000)
    (h : ∀ (h' : Heap) (tk : Nat), h'.SetOf (mixKind prog w) s.heap.objs.size (fun k' => mK k' (dk (ks.take items.size))) (dk (ks.take items.size)).length →
      (∀ b o, b < s.heap.objs.size → s.heap.get? b = some o → h'.get? b = some o) → Q (.ref s.heap.objs.size) { s with heap := h', toks := tk }) :
    wpAny (model prog w) A (call (.type "set") [.ref l]) Q E s := by
  obtain ⟨c, tl, hmro⟩ := PySem.F.called_set.mro
  have hmade := PySem.F.called_set.made
  have hsub := PySem.F.called_set.sub
  refine wpAny_call (codeAny_of_tree ?_)
  show wpAny _ _ (callAny (.type "set") _) _ _ _
  refine wpAny_pure ⟨Code.quiet_builtin _ (by decide +kernel), codeAny_builtin PySem.F.entry_type_call ?_⟩
  rw [Around.under_plain (weight_type_call_type "set" [.ref l] []) rfl]
  have h1 := PySem.F.called_set.notType
  have h2 := PySem.F.called_set.canCreate
  have hct := PySem.F.typeCall_set_1 (.ref l)
  repeat (any_goals (first | assumption | wp_step))
  refine codeAny_mono (code_set_new_1 (.ref l) (E := E) (Q₁ := fun obj s₁ => ∃ led : Bool, obj = .ref s.heap.objs.size ∧ s₁ = { s with heap := s.heap.push { cls := .type "set", dict := none, data := .set #[] 0 (.fresh 0 0 led) } }) fun led => ⟨led, rfl, rfl⟩) fun r s₁ hr => ?_
  cases r with
  | error e => exact hr
  | ok fl =>
    cases fl with
    | ret obj =>
      obtain ⟨led, rfl, rfl⟩ := hr
      have hS : (s.heap.push { cls := .type "set", dict := none, data := .set #[] 0 (.fresh 0 0 led) }).get? s.heap.objs.size = some { cls := .type "set", dict := none, data := .set #[] 0 (.fresh 0 0 led) } := Heap.get?_push_size _ rfl
      have hT : Shared.TypeIs { s with heap := s.heap.push { cls := .type "set", dict := none, data := .set #[] 0 (.fresh 0 0 led) } } (.ref s.heap.objs.size) "set" := ⟨_, hS, rfl⟩
      have hli := PySem.F.called_set.init.lookup
      have hbi := PySem.F.called_set.init.bind (.ref s.heap.objs.size)
      repeat (any_goals (first | assumption | wp_step))
      refine codeAny_mono (codeAny_call_builtin (R := wants (fun r s₂ => r = .none ∧ ∃ h' tk, s₂ = { s with heap := h', toks := tk } ∧
          h'.SetOf (mixKind prog w) s.heap.objs.size (fun k' => mK k' (dk (ks.take items.size))) (dk (ks.take items.size)).length ∧
          (∀ b o, b < s.heap.objs.size → s.heap.get? b = some o → h'.get? b = some o)) E) PySem.F.called_set.init.plain PySem.F.entry_set_init (check_set_init_1 hT ?_)) fun r₂ s₂ hr₂ => ?_
      · obtain ⟨ol, hol, hcl, nl, hdl⟩ := hl
        obtain ⟨ocls, odict, odata, oslots⟩ := ol
        simp only at hcl hdl
        subst hcl; subst hdl
        have hol' : (s.heap.push { cls := .type "set", dict := none, data := .set #[] 0 (.fresh 0 0 led) }).get? l = some { cls := .type "list", dict := odict, data := .seq items nl, slots := oslots } := Heap.get?_push_of_some _ hol
        have hsls := PySem.F.sub_list_set
        have hslf := PySem.F.sub_list_frozenset
        have hne : (Value.type "list" == Value.type "dict") = false := by decide
        have hl1 : (s.heap.push { cls := .type "set", dict := none, data := .set #[] 0 (.fresh 0 0 led) }).IsList l items := ⟨_, hol', rfl, nl, rfl⟩
        unfold Builtin.«set.__init__» noKeywords Builtin.Frozenset.updateFrom
        generalize hPI : pyIter = PI
        wp_walk
        subst hPI
        refine wpAny_pyIter_list hl1 ?_
        refine wpAny_bind (wpAny_runValue ?_)
        have hlS : l < s.heap.objs.size := Heap.lt_size hol
        have hh3 : A.in1.in1.in1.handled = none := by simp [hh]
        have hneI : l ≠ (s.heap.push { cls := .type "set", dict := none, data := .set #[] 0 (.fresh 0 0 led) }).objs.size := by
          rw [Heap.size_push]; exact Nat.ne_of_lt (Nat.lt_succ_of_lt hlS)
        have hSf : s.heap.objs.size ∉ [(s.heap.push { cls := .type "set", dict := none, data := .set #[] 0 (.fresh 0 0 led) }).objs.size, l] := by
          rw [Heap.size_push]; simp only [List.mem_cons, List.mem_singleton, List.not_mem_nil, or_false, not_or]
          exact ⟨Nat.ne_of_lt (Nat.lt_succ_self _), Nat.ne_of_gt hlS⟩
        have hsz : ks.length = items.size := by rw [← Array.length_toList, ← hi.length, List.length_map]
        have hval : ∀ (i : Nat) (v : Value), items[i]? = some v → ∃ k, ks[i]? = some k ∧ RelV (kV k) v := fun i v hv => by
          have hv' : items.toList[i]? = some v := by rw [Array.getElem?_toList]; exact hv
          have hil : i < ks.length := by
            rw [hsz]
            exact (Array.getElem?_eq_some_iff.mp hv).1
          obtain ⟨u, hu, ru⟩ := hi.get (i := i) (x := kV ks[i]) (by simp [hil])
          rw [hv'] at hu
          cases hu
          exact ⟨_, List.getElem?_eq_getElem hil, ru⟩
        refine loopK ((Walks.list hh3 _ l hneI items).toS) s.heap.objs.size
          hSf ks hsz (by rw [← hsz]; exact hn1) hval (items.size - 0) 0 _ (by omega) (Nat.zero_le _)
          ⟨⟨_, Heap.get?_push_size _ rfl, rfl, rfl⟩, (hl1.push _)⟩ ?hS0 ?hR
        case hS0 =>
          have hget : ((s.heap.push { cls := .type "set", dict := none, data := .set #[] 0 (.fresh 0 0 led) }).push { cls := .type "list_iterator", data := .fields #[.ref l, .int 0 0] }).get? s.heap.objs.size
              = some { cls := .type "set", dict := none, data := .set #[] 0 (.fresh 0 0 led) } := Heap.get?_push_of_some _ hS
          exact ⟨_, #[], 0, _, hget, ⟨rfl, rfl, rfl⟩, rfl, (fun e he => by simp at he), (fun k => by simp [dk, mK]), (by decide), (by rfl), rfl⟩
        case hR =>
          intro s' hm hS'
          obtain ⟨h', g', d', tk', os'⟩ := s'
          have eg : g' = s.gens := hm.gens
          have ed : d' = s.drawn := hm.drawn
          have eo : os' = s.os := hm.os
          subst eg; subst ed; subst eo
          show wpAny _ _ _ _ _ _
          refine wpAny_pure ?_
          show wpAny _ _ (ret Value.none) _ _ _
          refine wpAny_pure ⟨rfl, h', tk', rfl, hS', fun b o hb e => ?_⟩
          have hb1 : b ≠ s.heap.objs.size := Nat.ne_of_lt hb
          have hb2 : b ≠ (s.heap.push { cls := .type "set", dict := none, data := .set #[] 0 (.fresh 0 0 led) }).objs.size := by
            rw [Heap.size_push]; exact Nat.ne_of_lt (Nat.lt_succ_of_lt hb)
          exact hm.heap b o (by simp only [List.mem_cons, List.mem_singleton, List.not_mem_nil, or_false, not_or]; exact ⟨hb1, hb2⟩) (Heap.get?_push_of_some _ (Heap.get?_push_of_some _ e))
      · cases r₂ with
        | error e => exact hr₂
        | ok fl₂ =>
          cases fl₂ with
          | ret r =>
            obtain ⟨rfl, h', tk, rfl, hS', hk'⟩ := hr₂
            repeat (any_goals (first | assumption | wp_step))
            exact h _ _ hS' hk'
          | _ => exact hr₂.elim
    | _ => exact hr.elim
end
def tLenSetK (K : PySem.W.Frag) (ta : TE) : TE := fun σ H Q => ta σ H fun x H1 => ∃ (l : Addr) (ks : List Key), x = .ref l ∧ SqL K H1 l (ks.map kV) ∧ ks.length ≤ 4000 ∧ Q (.int ((dk ks).length : Nat)) H1
theorem pe_lenSetK {X : Cx} {a : Expr} {ta : TE} {p p2 q pos : Pos} (hm : X.mg "len" = none) (hm2 : X.mg "set" = none) (ha : PE X a ta) (hg : Gl X "len" := by rfl) (hg2 : Gl X "set" := by rfl) (hc : X.calm = true := by rfl)
    (na : starEach [a] X.env = (false, eval a X.env) :: starEach [] X.env := by rfl) : PE X (.Call (.Name "len" p) [.Call (.Name "set" p2) [a] [] q] [] pos) (tLenSetK X.K ta) := by
  refine ⟨fun pins s σ H Q I h => ?_⟩
  refine Call_ (ld_blt I hg hm boot_len ?_)
  refine PyProof.Rows.callWith_builtin1 (PyProof.Rows.args_cons ?_ rfl) rfl rfl
  refine Call_ (ld_blt I hg2 hm2 boot_set ?_)
  refine PyProof.Rows.callWith_type1 (PyProof.Rows.args_cons (thn (ha.run pins s σ H _ I h) fun v s1 ⟨x, H1, I1, r1, q1⟩ => PyProof.Rows.args_nil ?_) na) na rfl
  obtain ⟨l, ks, rfl, hq, hl, q1⟩ := q1
  cases r1
  obtain ⟨its, r, pl, hz⟩ := I1.list hq
  have hlen : its.toArray.size = ks.length := by rw [List.size_toArray, ← r.length, List.length_map]
  refine call_set_listK (I1.ok.hd hc) pl.isList (by simpa using r) hl fun h' tk hS hk => ?_
  refine PyProof.Rows.args_nil ?_
  rw [hlen, List.take_length] at hS
  obtain ⟨o, es, ep, t, ho, hex, hd, _, _, _, hf, hn⟩ := hS
  have I2 : Inv X pins σ H1 { s1 with heap := h', toks := tk } := I1.kept fun b o e => hk b o (Heap.lt_size e) e
  have hle : (dk ks).length ≤ 4000 := by
    have := dk_len_le ks []
    unfold dk
    simp at this ⊢
    omega
  exact call_len_set ho hex hd hf (by rw [hn]; omega) ⟨.int ((dk ks).length : Nat), H1, I2.tok _, ⟨_, by rw [hn]⟩, q1⟩
end K48

namespace K48
open PySem PySem.Spec PyProof.Rows L2
/-! ### comprehensions whose values are told ahead -/
section
variable {K : PySem.W.Frag} {a D : Addr} {xs ys : List V} {j : Nat} {σ : L2.St} {H1 : Hp} {te : TE} {Qd : Hp → Prop} {g : TG} {vs : List Nat}
theorem vals_inv (hl : ys.length = xs.length) {i : Nat} {x y : V} (hx : xs[i]? = some x) (hy : ys[i]? = some y) : ys.take (i + 1) = ys.take i ++ [y] := by
  rw [List.take_add_one, hy]
  rfl
theorem lc_valsL (hx : SqL K H1 a xs) (hl : ys.length = xs.length) (hlen : xs.length ≤ 1000) (hD : H1 D = none)
    (hs : ∀ (i : Nat) x y H, xs[i]? = some x → ys[i]? = some y → Same H1 H → ∀ Q : VK, (∀ H4, Same H H4 → Q y H4) → g x (wipe σ vs) H fun σ2 H2 => wipe σ2 vs = wipe σ vs ∧ te σ2 H2 Q)
    (hd : ∀ H, Same H1 H → H D = some (.lst ys) → Qd H) :
    ∃ W : Nat → Nat → Hp → Prop, (∃ m, W 0 m (upd H1 D (.lst []))) ∧ ∀ i m H, W i m H →
      ((Itl K a).stop i H ∧ Qd H) ∨ ((Itl K a).go i H ∧ ∃ Nx : Hp → Prop, (∀ H', Nx H' → ∃ m', m' < m ∧ W (i + 1) m' H') ∧ ∀ x H', (Itl K a).yld i H x H' → g x (wipe σ vs) H' fun σ2 H2 => wipe σ2 vs = wipe σ vs ∧ tYes σ2 H2 fun b H3 =>
        if b = true then te σ2 H3 fun y H4 => ∃ acc, H4 D = some (.lst acc) ∧ acc.length < sizeLine ∧ Nx (upd H4 D (.lst (acc ++ [y]))) else Nx H3) := by
  refine lc_list (K := K) (a := a) (xs := xs) (fun i H => Same H1 H ∧ H D = some (.lst (ys.take i))) ⟨same_new hD, upd_same⟩ (fun i H _ p => p.1.seq hx) (fun i x H hi q => ?_) fun H q => ?_
  · obtain ⟨s1, hd1⟩ := q
    have hil := (List.getElem?_eq_some_iff.mp hi).1
    have hy : ys[i]? = some (ys[i]'(by omega)) := List.getElem?_eq_getElem (by omega)
    refine hs i x _ H hi hy s1 _ fun H4 s4 => ⟨_, s4 _ _ hd1, by rw [List.length_take, sizeLine_eq]; omega, same_upd (s1.trans s4) hD, ?_⟩
    rw [upd_same, vals_inv hl hi hy]
  · obtain ⟨s1, hd1⟩ := q
    rw [← hl, List.take_length] at hd1
    exact hd H s1 hd1
theorem lc_valsT (hx : SqT K H1 a xs) (hl : ys.length = xs.length) (hlen : xs.length ≤ 1000) (hD : H1 D = none)
    (hs : ∀ (i : Nat) x y H, xs[i]? = some x → ys[i]? = some y → Same H1 H → ∀ Q : VK, (∀ H4, Same H H4 → Q y H4) → g x (wipe σ vs) H fun σ2 H2 => wipe σ2 vs = wipe σ vs ∧ te σ2 H2 Q)
    (hd : ∀ H, Same H1 H → H D = some (.lst ys) → Qd H) :
    ∃ W : Nat → Nat → Hp → Prop, (∃ m, W 0 m (upd H1 D (.lst []))) ∧ ∀ i m H, W i m H →
      ((Itt K a).stop i H ∧ Qd H) ∨ ((Itt K a).go i H ∧ ∃ Nx : Hp → Prop, (∀ H', Nx H' → ∃ m', m' < m ∧ W (i + 1) m' H') ∧ ∀ x H', (Itt K a).yld i H x H' → g x (wipe σ vs) H' fun σ2 H2 => wipe σ2 vs = wipe σ vs ∧ tYes σ2 H2 fun b H3 =>
        if b = true then te σ2 H3 fun y H4 => ∃ acc, H4 D = some (.lst acc) ∧ acc.length < sizeLine ∧ Nx (upd H4 D (.lst (acc ++ [y]))) else Nx H3) := by
  refine lc_tup (K := K) (a := a) (xs := xs) (fun i H => Same H1 H ∧ H D = some (.lst (ys.take i))) ⟨same_new hD, upd_same⟩ (fun i H _ p => sqT_sx (M := fun _ => False) hx (fun z => z) (Sx.ofSame p.1)) (fun i x H hi q => ?_) fun H q => ?_
  · obtain ⟨s1, hd1⟩ := q
    have hil := (List.getElem?_eq_some_iff.mp hi).1
    have hy : ys[i]? = some (ys[i]'(by omega)) := List.getElem?_eq_getElem (by omega)
    refine hs i x _ H hi hy s1 _ fun H4 s4 => ⟨_, s4 _ _ hd1, by rw [List.length_take, sizeLine_eq]; omega, same_upd (s1.trans s4) hD, ?_⟩
    rw [upd_same, vals_inv hl hi hy]
  · obtain ⟨s1, hd1⟩ := q
    rw [← hl, List.take_length] at hd1
    exact hd H s1 hd1
/-- over a list or a tuple -/
abbrev rowI (K : PySem.W.Frag) (te0 : TE) : TI := fun σ H R => iList K te0 σ H R ∨ iTup K te0 σ H R
theorem tlc_row {te0 : TE} {Qv : VK} (h0 : ∀ Q : VK, Q (.ref a) H1 → te0 σ H1 Q) (hr : RowAt H1 a xs) (hl : ys.length = xs.length) (hlen : xs.length ≤ 1000)
    (hs : ∀ (i : Nat) x y H, xs[i]? = some x → ys[i]? = some y → Same H1 H → ∀ Q : VK, (∀ H4, Same H H4 → Q y H4) → g x (wipe σ vs) H fun σ2 H2 => wipe σ2 vs = wipe σ vs ∧ te σ2 H2 Q)
    (hd : ∀ H D, H1 D = none → Same H1 H → H D = some (.lst ys) → Qv (.ref D) H) : tLc (fun σ H R => iList K te0 σ H R ∨ iTup K te0 σ H R) g tYes te vs σ H1 Qv := by
  rcases hr with h | h
  · exact .inl (h0 _ ⟨a, rfl, ⟨_, SqL.of h⟩, fun D nD => lc_valsL (SqL.of h) hl hlen nD hs fun H s1 hD => hd H D nD s1 hD⟩)
  · exact .inr (h0 _ ⟨a, rfl, ⟨_, SqT.of h⟩, fun D nD => lc_valsT (SqT.of h) hl hlen nD hs fun H s1 hD => hd H D nD s1 hD⟩)
/-- .., the target one name -/
theorem tlc_rowN {te0 : TE} {Qv : VK} (h0 : ∀ Q : VK, Q (.ref a) H1 → te0 σ H1 Q) (hr : RowAt H1 a xs) (hl : ys.length = xs.length) (hlen : xs.length ≤ 1000)
    (hs : ∀ (i : Nat) x y H, xs[i]? = some x → ys[i]? = some y → Same H1 H → ∀ Q : VK, (∀ H4, Same H H4 → Q y H4) → te ((wipe σ [j]).set j (some x)) H Q)
    (hd : ∀ H D, H1 D = none → Same H1 H → H D = some (.lst ys) → Qv (.ref D) H) : tLc (fun σ H R => iList K te0 σ H R ∨ iTup K te0 σ H R) (gName j) tYes te [j] σ H1 Qv :=
  tlc_row h0 hr hl hlen (fun i x y H h1 h2 h3 Q k => ⟨wipe_back, hs i x y H h1 h2 h3 Q k⟩) hd
theorem tYes_if {σ : L2.St} {H : Hp} {A B : Hp → Prop} (h : A H) : tYes σ H (fun b H3 => if b = true then A H3 else B H3) := by
  show (if true = true then A H else B H)
  rw [if_pos rfl]
  exact h
theorem dc_list {tt : TT} {tk tv : TE} (Pv : Nat → Hp → Prop) (h0 : Pv 0 (upd H1 D (.dK []))) (hl : ∀ i H, i ≤ xs.length → Pv i H → SqL K H a xs)
    (hs : ∀ i x H, xs[i]? = some x → Pv i H → g x (wipe σ vs) H fun σ2 H2 => wipe σ2 vs = wipe σ vs ∧ tt σ2 H2 fun b H3 =>
      if b = true then tk σ2 H3 fun y H4 => tv σ2 H4 fun z H5 => ∃ kvs k, y = kV k ∧ H5 D = some (.dK kvs) ∧ kvs.length < sizeLine ∧ Pv (i + 1) (upd H5 D (.dK (putK kvs k z))) else Pv (i + 1) H3) (hd : ∀ H, Pv xs.length H → Qd H) :
    ∃ W : Nat → Nat → Hp → Prop, (∃ m, W 0 m (upd H1 D (.dK []))) ∧ ∀ i m H, W i m H →
      ((Itl K a).stop i H ∧ Qd H) ∨ ((Itl K a).go i H ∧ ∃ Nx : Hp → Prop, (∀ H', Nx H' → ∃ m', m' < m ∧ W (i + 1) m' H') ∧ ∀ x H', (Itl K a).yld i H x H' → g x (wipe σ vs) H' fun σ2 H2 => wipe σ2 vs = wipe σ vs ∧ tt σ2 H2 fun b H3 =>
        if b = true then tk σ2 H3 fun y H4 => tv σ2 H4 fun z H5 => ∃ kvs k, y = kV k ∧ H5 D = some (.dK kvs) ∧ kvs.length < sizeLine ∧ Nx (upd H5 D (.dK (putK kvs k z))) else Nx H3) := by
  refine ⟨fun i m H => m = xs.length - i ∧ i ≤ xs.length ∧ Pv i H, ⟨xs.length, by simp, Nat.zero_le _, h0⟩, ?_⟩
  rintro i m H ⟨rfl, hi, p⟩
  have q := hl i H hi p
  by_cases hlt : i < xs.length
  · refine .inr ⟨⟨xs, xs[i], q, by simp [hlt]⟩, Pv (i + 1), fun H' p' => ⟨xs.length - (i + 1), by omega, rfl, hlt, p'⟩, fun x H' y => ?_⟩
    obtain ⟨e, y⟩ := y
    subst e
    exact hs i x _ (y xs q) p
  · have e : i = xs.length := by omega
    subst e
    exact .inl ⟨⟨xs, q, Nat.le_refl _⟩, hd H p⟩
/-- {k(x): v(x) for x in xs}, a list or a tuple -/
theorem tdc_rowN {te0 tk tv : TE} {Qv : VK} {h : Held} (h0 : ∀ Q : VK, Q (.ref a) H1 → te0 σ H1 Q) (hr : RowAt H1 a xs) (hl : h.length = xs.length) (hlen : xs.length ≤ 1000)
    (hs : ∀ (i : Nat) x (p : Key × Int) H, xs[i]? = some x → h[i]? = some p → Same H1 H → ∀ Q : VK, Q (kV p.1) H → tk ((wipe σ [j]).set j (some x)) H Q)
    (hv2 : ∀ (i : Nat) x (p : Key × Int) H, xs[i]? = some x → h[i]? = some p → Same H1 H → ∀ Q : VK, Q (.int p.2) H → tv ((wipe σ [j]).set j (some x)) H Q)
    (hd : ∀ H D, H1 D = none → Same H1 H → H D = some (.dK (hv (putAll [] h))) → Qv (.ref D) H) : tDc (fun σ H R => iList K te0 σ H R ∨ iTup K te0 σ H R) (gName j) tYes tk tv [j] σ H1 Qv := by
  have st : ∀ D, H1 D = none → ∀ (i : Nat) x H, xs[i]? = some x → (Same H1 H ∧ H D = some (.dK (hv (putAll [] (h.take i))))) → gName j x (wipe σ [j]) H fun σ2 H2 => wipe σ2 [j] = wipe σ [j] ∧ tYes σ2 H2 fun b H3 =>
      if b = true then tk σ2 H3 fun y H4 => tv σ2 H4 fun z H5 => ∃ kvs k, y = kV k ∧ H5 D = some (.dK kvs) ∧ kvs.length < sizeLine ∧ (Same H1 (upd H5 D (.dK (putK kvs k z))) ∧ (upd H5 D (.dK (putK kvs k z))) D = some (.dK (hv (putAll [] (h.take (i + 1)))))) else (Same H1 H3 ∧ H3 D = some (.dK (hv (putAll [] (h.take (i + 1)))))) := by
    intro D nD i x H hi q
    obtain ⟨s1, hd1⟩ := q
    have hil := (List.getElem?_eq_some_iff.mp hi).1
    have hp : h[i]? = some (h[i]'(by omega)) := List.getElem?_eq_getElem (by omega)
    refine ⟨wipe_back, tYes_if ?_⟩
    refine hs i x _ H hi hp s1 _ (hv2 i x _ H hi hp s1 _ ⟨_, _, rfl, hd1, ?_, same_upd s1 nD, ?_⟩)
    · have := putAll_len (h.take i) []
      have l3 : (h.take i).length ≤ i := by
        rw [List.length_take]
        omega
      unfold hv
      rw [List.length_map, sizeLine_eq]
      simp at this
      omega
    · rw [upd_same, putK_hv, putAll_take [] hp]
  rcases hr with hx | hx
  · exact .inl (h0 _ ⟨a, rfl, ⟨_, SqL.of hx⟩, fun D nD => dc_list (K := K) (a := a) (xs := xs) (fun i H => Same H1 H ∧ H D = some (.dK (hv (putAll [] (h.take i))))) ⟨same_new nD, by rw [upd_same]; rfl⟩ (fun i H _ p => p.1.seq (SqL.of hx)) (st D nD) fun H q => hd H D nD q.1 (by
      have q2 := q.2
      rw [← hl, List.take_length] at q2
      exact q2)⟩)
  · exact .inr (h0 _ ⟨a, rfl, ⟨_, SqT.of hx⟩, fun D nD => dc_tup (K := K) (a := a) (xs := xs) (fun i H => Same H1 H ∧ H D = some (.dK (hv (putAll [] (h.take i))))) ⟨same_new nD, by rw [upd_same]; rfl⟩ (fun i H _ p => sqT_sx (M := fun _ => False) (SqT.of hx) (fun z => z) (Sx.ofSame p.1)) (st D nD) fun H q => hd H D nD q.1 (by
      have q2 := q.2
      rw [← hl, List.take_length] at q2
      exact q2)⟩)
end
theorem put_app {h : Held} {k : Key} {i : Int} (n : k ∉ h.map (·.1)) : put h k i = h ++ [(k, i)] := by
  unfold put
  rw [if_neg]
  intro c
  obtain ⟨p, hp, e⟩ := List.any_eq_true.mp c
  exact n (List.mem_map.mpr ⟨p, hp, of_decide_eq_true e⟩)
theorem putAll_all : ∀ (h g : Held), ((g ++ h).map (·.1)).Nodup → putAll g h = g ++ h
  | [], g, _ => by simp [putAll]
  | p :: r, g, n => by
    have hp : p.1 ∉ g.map (·.1) := fun q => by
      rw [List.map_append] at n
      exact (List.nodup_append.mp n).2.2 _ q p.1 (by simp) rfl
    show putAll (put g p.1 p.2) r = g ++ p :: r
    rw [put_app hp, putAll_all r (g ++ [p]) (by simpa using n)]
    simp
/-! ### what places have at first -/
def keyD : PyData → Option Key
  | .int i => if 0 ≤ i then some (.inl i) else none
  | .str s => some (.inr s)
  | _ => none
def intD : PyData → Option Int
  | .int i => some i
  | _ => none
def rowD : PyData → Option (List PyData)
  | .list ds => some ds
  | .tuple ds => some ds
  | _ => none
def heldPair (d : PyData) : Option (Key × Int) := match rowD d with
  | some [a, b] => (match keyD a, intD b with
    | some k, some i => some (k, i)
    | _, _ => none)
  | _ => none
theorem rowD_da {H : Hp} {d : PyData} {x : V} {ds : List PyData} (h : Da H d x) (e : rowD d = some ds) : ∃ a xs, x = .ref a ∧ RowAt H a xs ∧ DaL H ds xs := by
  cases d with
  | list es =>
    obtain rfl := Option.some.inj e
    obtain ⟨a, xs, rfl, h1, h2⟩ := Da.lst.mp h
    exact ⟨a, xs, rfl, .inl h1, h2⟩
  | tuple es =>
    obtain rfl := Option.some.inj e
    obtain ⟨a, xs, rfl, h1, h2⟩ := Da.tup.mp h
    exact ⟨a, xs, rfl, .inr h1, h2⟩
  | _ => cases e
theorem rowD_none {d : PyData} (e : rowD d = none) : isRow d = false := by
  cases d with
  | list es => cases e
  | tuple es => cases e
  | _ => rfl
theorem keyD_pl {H : Hp} {d : PyData} {x : V} (h : Da H d x) : plV x = (keyD d).isSome := by
  cases d with
  | none =>
    rw [Da.none.mp h]
    rfl
  | bool b =>
    rw [Da.bool.mp h]
    rfl
  | int i =>
    rw [Da.int.mp h]
    show decide (0 ≤ i) = (if 0 ≤ i then some (Sum.inl i) else none : Option Key).isSome
    by_cases c : 0 ≤ i
    · rw [if_pos c, decide_eq_true c]
      rfl
    · rw [if_neg c, decide_eq_false c]
      rfl
  | str s =>
    rw [Da.str.mp h]
    rfl
  | list ds =>
    obtain ⟨a, xs, rfl, _⟩ := Da.lst.mp h
    rfl
  | tuple ds =>
    obtain ⟨a, xs, rfl, _⟩ := Da.tup.mp h
    rfl
  | dict _ => simp only [Da] at h
theorem keyD_kV {H : Hp} {d : PyData} {x : V} {k : Key} (h : Da H d x) (e : keyD d = some k) : x = kV k := by
  cases d with
  | int i =>
    rw [Da.int.mp h]
    unfold keyD at e
    dsimp only at e
    split at e
    · cases e
      rfl
    · cases e
  | str s =>
    rw [Da.str.mp h]
    cases e
    rfl
  | _ => cases e
theorem intD_ki {d : PyData} : decide (kindOf d = "int") = (intD d).isSome := by
  cases d <;> rfl
theorem intD_int {H : Hp} {d : PyData} {x : V} {i : Int} (h : Da H d x) (e : intD d = some i) : x = .int i := by
  cases d with
  | int j =>
    rw [Da.int.mp h]
    cases e
    rfl
  | _ => cases e
theorem heldPair_some {d : PyData} {p : Key × Int} (e : heldPair d = some p) : ∃ a b, rowD d = some [a, b] ∧ keyD a = some p.1 ∧ intD b = some p.2 := by
  unfold heldPair at e
  split at e
  · rename_i a b hr
    split at e
    · rename_i k i h1 h2
      cases e
      exact ⟨a, b, hr, h1, h2⟩
    · cases e
  · cases e
section
variable {P : Program} {w : World} {K : PySem.W.Frag} {mg : Str → Option Value} {base : Heap}
theorem RowAt.ixl {H : Hp} {a : Addr} {xs : List V} (h : RowAt H a xs) : SqL K H a xs ∨ SqT K H a xs := h.imp SqL.of SqT.of
theorem row_ix {H : Hp} {a : Addr} {xs : List V} {i : Int} {v : V} {Q : VK} (h : RowAt H a xs) (e : atI xs i = some v) (k : Q v H) : rIx K (.ref a) (.int i) H Q := by
  rcases h with h | h
  · exact .inl ⟨a, xs, i, v, rfl, rfl, SqL.of h, e, k⟩
  · exact .inr (.inl ⟨a, xs, i, v, rfl, rfl, SqT.of h, e, k⟩)
def spIsHeld : Sp := fun vs H Q _ => ∃ (x : V) (d : PyData), vs = [x] ∧ Da H d x ∧ ∀ H', Same H H' → Q (.bl (heldPair d).isSome) H'
theorem sc_is_held : FnScope ["value"] ["value"] (defScope s_is_held) := ⟨rfl, rfl, rfl, by decide +kernel, rfl, by decide +kernel, by decide +kernel⟩
theorem ca_is_held (T : Tx K mg) : Ca P w K mg base CX0 3 "is_held" spIsHeld := by
  refine ca0 T.f_is_held T.m_is_held sc_is_held (fun _ _ _ _ _ _ us hl => match us, hl with | [_], _ => rfl) (fun vs H Q E h => ?_) (fun cdv A outer s H vs Q E hr h => ?_)
  · obtain ⟨x, d, rfl, _⟩ := h
    rfl
  · obtain ⟨x, d, rfl, hd, k⟩ := h
    have c1 := ca_is_row (P := P) (w := w) (base := base) T
    have c2 := ca_is_place (P := P) (w := w) (base := base) T
    have c3 := ca_is_int (P := P) (w := w) (base := base) T
    refine ⟨_, pss_one (ps_ret (pe_and (pe_ca c1 hr (pa_cons (pv 0) pa_nil)) (pe_and (pe_cmpR op_eq (pe_callB call_len_seq (by rfl) T.z_len PySem.boot_len (pa_cons (pv 0) pa_nil)) pe_int (nomark _))
      (pe_and (pe_ca c2 hr (pa_cons (pe_ix ix_seq (pv 0) pe_int (fun _ _ => rfl)) pa_nil)) (pe_one (pe_ca c3 hr (pa_cons (pe_ix ix_seq (pv 0) pe_int (fun _ _ => rfl)) pa_nil))))))), ?_⟩
    cases er : rowD d with
    | none =>
      refine ⟨_, rfl, _, _, rfl, row_da hd (rowD_none er), fun H1 s1 => ⟨_, rfl, if_f rfl (q_bl (k H1 s1) ?_)⟩⟩
      unfold heldPair
      rw [er]
      rfl
    | some ds =>
      obtain ⟨a, xs, rfl, hrow, hx⟩ := rowD_da hd er
      have lx := hx.length
      refine ⟨_, rfl, _, _, rfl, hrow.row, fun H1 s1 => ⟨_, rfl, if_t rfl ?_⟩⟩
      have hrow1 := hrow.same s1
      refine ⟨_, rfl, a, xs, rfl, hrow1.ixl, rfl, _, rfl, ?_⟩
      refine if_b (fun c => ?_) fun c => ?_
      · have c' : xs.length = 2 := by
          have := V.int.inj (of_decide_eq_true c)
          omega
        match xs, ds, c', lx, hx, hrow1, er with
        | [x1, x2], [d1, d2], _, _, hx, hrow1, er =>
          obtain ⟨_, _, e1, h1, h2⟩ := DaL.cons.mp hx
          obtain ⟨_, _, e2, h3, _⟩ := DaL.cons.mp h2
          cases e1
          cases e2
          have g1 := h1.kp (Kp.of s1)
          have g2 := h3.kp (Kp.of s1)
          refine ⟨_, rfl, row_ix hrow1 (at0 _ _) ⟨_, _, rfl, g1.kd, _, rfl, ?_⟩⟩
          rw [keyD_pl g1]
          refine if_b (fun c1 => ?_) fun c1 => ?_
          · refine ⟨_, rfl, row_ix hrow1 (at1 _ _ _) ⟨_, _, rfl, g2.kd, q_bl (k H1 s1) ?_⟩⟩
            rw [intD_ki]
            unfold heldPair
            rw [er]
            dsimp only
            cases q1 : keyD d1 with
            | none =>
              rw [q1] at c1
              cases c1
            | some key => cases q2 : intD d2 <;> rfl
          · refine q_bl (k H1 s1) ?_
            unfold heldPair
            rw [er]
            dsimp only
            cases q1 : keyD d1 with
            | none => rfl
            | some key =>
              rw [q1] at c1
              cases c1
      · refine q_bl (k H1 s1) ?_
        unfold heldPair
        rw [er]
        match ds, lx with
        | [], _ => rfl
        | [_], _ => rfl
        | [_, _], lx =>
          refine absurd c ?_
          rw [lx, decide_eq_true (by rfl)]
          decide
        | _ :: _ :: _ :: _, _ => rfl
/-! held_first -/
def heldAll : List PyData → Option Held
  | [] => some []
  | d :: ds => (match heldPair d, heldAll ds with
    | some p, some h => some (p :: h)
    | _, _ => none)
theorem heldAll_some : ∀ {ds : List PyData} {h : Held}, heldAll ds = some h → ds.map heldPair = h.map some
  | [], h, e => by
    cases e
    rfl
  | d :: ds, h, e => by
    unfold heldAll at e
    split at e
    · rename_i p h' h1 h2
      cases e
      rw [List.map_cons, h1, heldAll_some h2]
      rfl
    · cases e
theorem heldAll_all : ∀ {ds : List PyData}, (ds.map fun d => (heldPair d).isSome).all id = (heldAll ds).isSome
  | [] => rfl
  | d :: ds => by
    have ih := heldAll_all (ds := ds)
    rw [List.map_cons, List.all_cons, ih]
    have e : heldAll (d :: ds) = (match heldPair d, heldAll ds with
      | some p, some h => some (p :: h)
      | _, _ => none) := by rw [heldAll]
    rw [e]
    cases heldPair d <;> cases heldAll ds <;> rfl
structure BegOk (d : PyData) (h : Held) : Prop where
  r : ∃ ds, rowD d = some ds ∧ heldAll ds = some h
  n : (h.map (·.1)).Nodup
def BegBad (d : PyData) : Prop := rowD d = none ∨ ∃ ds, rowD d = some ds ∧ (heldAll ds = none ∨ ∃ h, heldAll ds = some h ∧ ¬ (h.map (·.1)).Nodup)
def short (d : PyData) : Prop := ∀ ds, rowD d = some ds → ds.length ≤ 1000
def spHeldFirst (C : Addr) : Sp := fun vs H Q E => ∃ (x : V) (d : PyData), vs = [x] ∧ Da H d x ∧ short d ∧
  ((∃ h, BegOk d h ∧ ∀ H' a, Same H H' → H a = none → H' a = some (.dK (hv h)) → Q (.ref a) H') ∨ (BegBad d ∧ ∀ H' dd, Same H H' → H' dd = some (.xd [("value", x)]) → E (.ref C) (some dd) H'))
abbrev nHF : List Str := ["begin", "pair"]
theorem sc_held_first : FnScope nHF ["begin"] (defScope s_held_first) := ⟨rfl, rfl, rfl, by decide +kernel, rfl, by decide +kernel, by decide +kernel⟩
theorem held_at {ds : List PyData} {h : Held} {H : Hp} {xs : List V} (hx : DaL H ds xs) (e : heldAll ds = some h) {i : Nat} {x : V} {p : Key × Int} (hi : xs[i]? = some x) (hp : h[i]? = some p) :
    ∃ a ys, x = .ref a ∧ RowAt H a ys ∧ ys = [kV p.1, .int p.2] := by
  obtain ⟨d, h1, h2⟩ := hx.get hi
  have em := heldAll_some e
  have e2 : (ds.map heldPair)[i]? = (h.map some)[i]? := by rw [em]
  rw [List.getElem?_map, List.getElem?_map, h1, hp] at e2
  have e3 : heldPair d = some p := Option.some.inj e2
  obtain ⟨d1, d2, er, ek, ei⟩ := heldPair_some e3
  obtain ⟨a, ys, rfl, hr, hy⟩ := rowD_da h2 er
  obtain ⟨y1, r1, rfl, g1, hy⟩ := DaL.cons.mp hy
  obtain ⟨y2, r2, rfl, g2, hy⟩ := DaL.cons.mp hy
  obtain rfl := DaL.nil.mp hy
  refine ⟨a, _, rfl, hr, ?_⟩
  rw [keyD_kV g1 ek, intD_int g2 ei]
theorem heldAll_len {ds : List PyData} {h : Held} (e : heldAll ds = some h) : h.length = ds.length := by
  have em := heldAll_some e
  have := congrArg List.length em
  rw [List.length_map, List.length_map] at this
  exact this.symm
theorem ca_held_first (T : Tx K mg) : Ca P w K mg base (L2.CX P w) 4 "held_first" (spHeldFirst (cBR K)) := by
  refine caX T.f_held_first T.m_held_first sc_held_first (fun _ _ _ _ _ _ us hl => match us, hl with | [_], _ => rfl) (fun vs H Q E h => ?_) (fun cdv A outer s H vs Q E hr h => ?_)
  · obtain ⟨x, d, rfl, _⟩ := h
    rfl
  · obtain ⟨x, d, rfl, hd, hsh, k⟩ := h
    have c1 := ca_is_row (P := P) (w := w) (base := base) T
    have c2 := ca_is_held (P := P) (w := w) (base := base) T
    have o := T.o_BadRow
    obtain ⟨fd, ps, F1, hb⟩ := ex_BR (P := P) (w := w) (base := base) T
    have hr1 := hr.mono (show 2 ≤ 3 by decide)
    refine ⟨_, pss_cons (ps_if (PW.pt (pw_or (pt_not (pt_val (pe_ca c1 hr (pa_cons (pv 0) pa_nil)))) (pw_or1 (pt_not (pt_val (pe_callB (cr_all rfl) (by rfl) T.z_all (by decide +kernel) (pa_cons
          (pe_lc (own := [("pair", 1)]) (g := gName 1) (tt := tYes) rfl sc_held_first.nd (pi_or (pi_list (pv 0)) (pi_tup (pv 0))) (blkOk_by (N := nHF) (sc := defScope s_held_first) (by decide +kernel)) (fun _ _ _ _ _ => pg_name (i := 1) sc_held_first.nd rfl (Or.inl rfl))
            (fun _ _ _ _ _ => pts_nil) (fun _ _ _ _ _ => pe_ca c2 hr (pa_cons (pv 1) pa_nil))) pa_nil)))))))
        (pss_one (ps_raise rfl (takes_of rfl rfl rfl rfl) (pmk_oex o.o o.i o.t F1 hr1 hb .nil pass0 (by rfl) T.m_BadRow (pa_cons (pv 0) pa_nil)))) pss_nil)
      (pss_cons (ps_if (pt_cmpR op_lt (pe_lenSetK T.z_len T.z_set (pe_lc (te := tOp (rIx K) (tVar 1) (tC (.int 0))) (own := [("pair", 1)]) (g := gName 1) (tt := tYes) rfl sc_held_first.nd (pi_or (pi_list (pv 0)) (pi_tup (pv 0))) (blkOk_by (N := nHF) (sc := defScope s_held_first) (by decide +kernel)) (fun _ _ _ _ _ => pg_name (i := 1) sc_held_first.nd rfl (Or.inl rfl))
            (fun _ _ _ _ _ => pts_nil) (fun _ _ _ _ _ => pe_ix ix_seq (pv 1) pe_int (fun _ _ => rfl)))) (pe_callB call_len_seq (by rfl) T.z_len PySem.boot_len (pa_cons (pv 0) pa_nil)) (nomark _))
        (pss_one (ps_raise rfl (takes_of rfl rfl rfl rfl) (pmk_oex o.o o.i o.t F1 hr1 hb .nil pass0 (by rfl) T.m_BadRow (pa_cons (pv 0) pa_nil)))) pss_nil)
      (pss_one (ps_ret (pe_dc (tk := tOp (rIx K) (tVar 1) (tC (.int 0))) (tv := tOp (rIx K) (tVar 1) (tC (.int 1))) (own := [("pair", 1)]) (g := gName 1) (tt := tYes) rfl sc_held_first.nd (pi_or (pi_list (pv 0)) (pi_tup (pv 0))) (blkOk_by (N := nHF) (sc := defScope s_held_first) (by decide +kernel)) (fun _ _ _ _ _ => pg_name (i := 1) sc_held_first.nd rfl (Or.inl rfl))
            (fun _ _ _ _ _ => pts_nil) (fun _ _ _ _ _ => pe_ix ix_seq (pv 1) pe_int (fun _ _ => rfl)) (fun _ _ _ _ _ => pe_ix ix_seq (pv 1) pe_int (fun _ _ => rfl)))))), ?_⟩
    have bad : BegBad d → ∀ H1, Same H H1 → ∀ dd, H1 dd = none → E (.ref (cBR K)) (some dd) (upd H1 dd (.xd [("value", x)])) := fun b H1 s1 dd nd => by
      rcases k with ⟨h, ⟨⟨ds, r1, r2⟩, n⟩, _⟩ | ⟨_, k⟩
      · rcases b with b | ⟨ds', b1, b2⟩
        · rw [b] at r1
          cases r1
        · rw [b1] at r1
          cases r1
          rcases b2 with b2 | ⟨h', b2, b3⟩
          · rw [b2] at r2
            cases r2
          · rw [b2] at r2
            cases r2
            exact absurd n b3
      · exact k _ dd (same_upd s1 (s1.free nd)) upd_same
    cases er : rowD d with
    | none =>
      refine ⟨_, rfl, _, _, rfl, row_da hd (rowD_none er), fun H1 s1 => ⟨_, rfl, if_t rfl ?_⟩⟩
      exact if_t rfl ⟨_, rfl, rBR (bad (.inl er) H1 s1)⟩
    | some ds =>
      obtain ⟨a, xs, rfl, hrow, hx⟩ := rowD_da hd er
      have lx := hx.length
      have lds := hsh ds er
      refine ⟨_, rfl, _, _, rfl, hrow.row, fun H1 s1 => ⟨_, rfl, if_f rfl ?_⟩⟩
      unfold tNot tB tCB tCons
      refine tlc_rowN (ys := ds.map fun d => V.bl (heldPair d).isSome) (fun Q q => ⟨_, rfl, q⟩) (hrow.same s1) (by rw [List.length_map, lx]) (by omega) ?_ ?_
      · intro i x y H2 hi hy s2 Q2 k2
        obtain ⟨d', h1, h2⟩ := (hx.kp (Kp.of (s1.trans s2))).get hi
        rw [List.getElem?_map, h1] at hy
        cases hy
        exact ⟨_, rfl, _, d', rfl, h2, fun H4 s4 => k2 H4 s4⟩
      · intro H2 D nD s2 hD
        have hb2 : ds.map (fun d => V.bl (heldPair d).isSome) = (ds.map fun d => (heldPair d).isSome).map V.bl := by
          rw [List.map_map]
          rfl
        rw [hb2] at hD
        refine ⟨D, _, rfl, SqL.of hD, _, rfl, ?_⟩
        rw [heldAll_all]
        have s12 := s1.trans s2
        cases eh : heldAll ds with
        | none => exact if_t rfl ⟨_, rfl, rBR (bad (.inr ⟨ds, er, .inl eh⟩) H2 s12)⟩
        | some h =>
          have lh := heldAll_len eh
          refine if_f rfl ?_
          unfold tNext tSeq tIfS tTest tOp tLenSetK
          dsimp only
          refine tlc_rowN (ys := (h.map (·.1)).map kV) (fun Q q => ⟨_, rfl, q⟩) (hrow.same s12) (by rw [List.length_map, List.length_map, lh, lx]) (by omega) ?_ ?_
          · intro i x y H3 hi hy s3 Q2 k2
            rw [List.getElem?_map, List.getElem?_map] at hy
            cases hp : h[i]? with
            | none =>
              rw [hp] at hy
              cases hy
            | some p =>
              rw [hp] at hy
              cases hy
              obtain ⟨b, ys, rfl, hr2, rfl⟩ := held_at (hx.kp (Kp.of (s12.trans s3))) eh hi hp
              exact ⟨_, rfl, row_ix hr2 (at0 _ _) (k2 H3 (Same.refl _))⟩
          · intro H3 D2 nD2 s3 hD2
            have s13 := s12.trans s3
            refine ⟨D2, _, rfl, SqL.of hD2, by rw [List.length_map]; omega, ?_⟩
            refine ⟨_, rfl, a, xs, rfl, (hrow.same s13).ixl, _, _, rfl, rfl, _, rfl, ?_⟩
            by_cases nn : (h.map (·.1)).Nodup
            · refine if_f (decide_eq_false fun z => ?_) ?_
              · rw [dk_len _ nn, List.length_map] at z
                omega
              · unfold tRet
                refine tdc_rowN (h := h) (fun Q q => ⟨_, rfl, q⟩) (hrow.same s13) (by omega) (by omega) ?_ ?_ ?_
                · intro i x p H4 hi hp s4 Q2 k2
                  obtain ⟨b, ys, rfl, hr2, rfl⟩ := held_at (hx.kp (Kp.of (s13.trans s4))) eh hi hp
                  exact ⟨_, rfl, row_ix hr2 (at0 _ _) k2⟩
                · intro i x p H4 hi hp s4 Q2 k2
                  obtain ⟨b, ys, rfl, hr2, rfl⟩ := held_at (hx.kp (Kp.of (s13.trans s4))) eh hi hp
                  exact ⟨_, rfl, row_ix hr2 (at1 _ _ _) k2⟩
                · intro H4 D3 nD3 s4 hD3
                  rw [putAll_all h [] (by simpa using nn), List.nil_append] at hD3
                  rcases k with ⟨h', ⟨⟨ds', r1, r2⟩, n⟩, k⟩ | ⟨b, _⟩
                  · rw [er] at r1
                    cases r1
                    rw [eh] at r2
                    cases r2
                    exact k H4 D3 (s13.trans s4) (s13.free nD3) hD3
                  · rcases b with b | ⟨ds', b1, b2⟩
                    · rw [b] at er
                      cases er
                    · rw [er] at b1
                      cases b1
                      rcases b2 with b2 | ⟨h', b2, b3⟩
                      · rw [b2] at eh
                        cases eh
                      · rw [eh] at b2
                        cases b2
                        exact absurd nn b3
            · refine if_t (decide_eq_true ?_) ⟨_, rfl, rBR (bad (.inr ⟨ds, er, .inr ⟨h, eh, nn⟩⟩) H3 s13)⟩
              have := dk_short _ nn
              rw [List.length_map] at this
              omega
end
end K48

namespace ZM
open PySem
open PySem.Sem (wp)
section
variable {prog : Program} {w : World} {A : Around} {E : Value → Shared → Prop} {s : Shared}

theorem zipM_next_item {z TI TO i1 i2 l1 l2 : Addr} {k1 k2 : Nat} {xs ys : Array Value} {x y a b : Value} {Q : Value → Shared → Prop} (D : ZipApart z TI TO i1 i2 l1 l2)
    (hz : IsZip s.heap z TI TO .none) (hTI : IsPair s.heap TI (.ref i1) (.ref i2)) (hTO : IsPair s.heap TO a b)
    (h1 : s.heap.IsListIter i1 l1 k1) (h2 : s.heap.IsTupleIter i2 l2 k2) (hl1 : s.heap.IsList l1 xs) (hl2 : s.heap.IsTuple l2 ys) (hx : xs[k1]? = some x) (hy : ys[k2]? = some y)
    (hQ : ∀ h', IsZip h' z TI TO (rawInt s.heap.objs.size) → IsPair h' TO x y → h'.IsListIter i1 l1 (k1 + 1) → h'.IsTupleIter i2 l2 (k2 + 1) → IsPair h' s.heap.objs.size x y → h'.objs.size = s.heap.objs.size + 1 →
      (∀ c o, c ≠ z → c ≠ TO → c ≠ i1 → c ≠ i2 → s.heap.get? c = some o → h'.get? c = some o) → Q (.ref s.heap.objs.size) { s with heap := h' }) :
    wpAny (model prog w) A (Builtin.«zip.__next__» ⟨[.ref z], []⟩) (fun fin s' => ∃ v, fin = .done (.ret v) ∧ Q v s') E s := by
  show wpAny _ _ (field (.ref z) 2 >>= _) _ _ _
  refine wpAny_bind (wpAny_field hz rfl (x := .bool false) rfl ?_)
  show wpAny _ _ (field (.ref z) 3 >>= _) _ _ _
  refine wpAny_bind (wpAny_field hz rfl (x := .ref TI) rfl ?_)
  refine wpAny_bind (wpAny_seqItems hTI rfl ?_)
  show wpAny _ _ (Builtin.SmallTypes.ownedTupleIsFree (.ref z) >>= _) _ _ _
  refine wpAny_bind ?_
  unfold Builtin.SmallTypes.ownedTupleIsFree
  refine wpAny_bind (wpAny_field hz rfl (x := .none) rfl (wpAny_pure ?_))
  simp only [if_true]
  refine wpAny_bind (wpAny_rule ?_)
  refine wpAny_bind (wpAny_field hz rfl (x := .ref TO) rfl ?_)
  refine wpAny_bind (wpAny_setField_rec hz (by simp) fun h₁ hz₁ hs₁ => ?_)
  replace hz₁ : IsZip h₁ z TI TO .ellipsis := hz₁
  refine wpAny_bind ?_
  simp only [List.zipIdx_cons, List.zipIdx_nil, List.forIn_cons, List.forIn_nil]

  refine wpAny_bind (wpAny_bind (wpAny_onRaise ?_))
  show wpAny _ _ (Builtin.SmallTypes.nextOf (.ref i1) >>= _) _ _ _
  refine wpAny_bind (wpAny_nextOf_list_item (h1.extBut hs₁.extBut D.i1z) (hl1.extBut hs₁.extBut D.l1z) hx fun h₂ h1₂ hs₂ => wpAny_pure ?_)
  have hTO₂ : IsPair h₂ TO a b := hs₂.extBut _ _ D.TOi1 (hs₁.extBut _ _ D.TOz hTO)
  refine wpAny_bind (wpAny_seqItems hTO₂ rfl ?_)
  refine wpAny_bind (wpAny_updateSeq_pair hTO₂ fun h₃ hTO₃ hs₃ => ?_)
  replace hTO₃ : IsPair h₃ TO x b := hTO₃
  refine wpAny_bind (wpAny_letGo (wpAny_pure ?_))

  refine wpAny_bind (wpAny_bind (wpAny_onRaise ?_))
  show wpAny _ _ (Builtin.SmallTypes.nextOf (.ref i2) >>= _) _ _ _
  refine wpAny_bind (RZ.nextOf_tuple_item (((h2.extBut hs₁.extBut D.i2z).extBut hs₂.extBut D.i12.symm).extBut hs₃.extBut D.TOi2.symm)
    (((hl2.extBut hs₁.extBut D.l2z).extBut hs₂.extBut D.l2i1).extBut hs₃.extBut D.l2TO) hy fun h₄ h2₄ hs₄ => wpAny_pure ?_)
  have hTO₄ : IsPair h₄ TO x b := hs₄.extBut _ _ D.TOi2 hTO₃
  refine wpAny_bind (wpAny_seqItems hTO₄ rfl ?_)
  refine wpAny_bind (wpAny_updateSeq_pair hTO₄ fun h₅ hTO₅ hs₅ => ?_)
  replace hTO₅ : IsPair h₅ TO x y := hTO₅
  refine wpAny_bind (wpAny_letGo (wpAny_pure (wpAny_pure ?_)))

  refine wpAny_bind (wpAny_seqItems hTO₅ rfl ?_)
  refine wpAny_bind (wpAny_newTuple ?_)
  have hsz : h₅.objs.size = s.heap.objs.size := by rw [hs₅.1, hs₄.1, hs₃.1, hs₂.1, hs₁.1]
  have hz₅ : IsZip h₅ z TI TO .ellipsis := hs₅.extBut _ _ D.TOz.symm (hs₄.extBut _ _ D.i2z.symm (hs₃.extBut _ _ D.TOz.symm (hs₂.extBut _ _ D.i1z.symm hz₁)))
  have hk₅ : ∀ c o, c ≠ z → c ≠ TO → c ≠ i1 → c ≠ i2 → s.heap.get? c = some o → h₅.get? c = some o := fun c o c1 c2 c3 c4 e =>
    hs₅.extBut _ _ c2 (hs₄.extBut _ _ c4 (hs₃.extBut _ _ c2 (hs₂.extBut _ _ c3 (hs₁.extBut _ _ c1 e))))
  have h1₅ : h₅.IsListIter i1 l1 (k1 + 1) := ((h1₂.extBut hs₃.extBut D.TOi1.symm).extBut hs₄.extBut D.i12).extBut hs₅.extBut D.TOi1.symm
  have h2₅ : h₅.IsTupleIter i2 l2 (k2 + 1) := h2₄.extBut hs₅.extBut D.TOi2.symm
  have hzlt : z < h₅.objs.size := Heap.lt_size hz₅
  have hTOlt : TO < h₅.objs.size := Heap.lt_size hTO₅
  have hi1lt : i1 < h₅.objs.size := by obtain ⟨_, e, _⟩ := h1₅; exact Heap.lt_size e
  have hi2lt : i2 < h₅.objs.size := by obtain ⟨_, e, _⟩ := h2₅; exact Heap.lt_size e
  show wpAny _ _ (Builtin.SmallTypes.ownedTupleHandOut (.ref z) (.ref h₅.objs.size) >>= _) _ _ _
  refine wpAny_bind ?_
  unfold Builtin.SmallTypes.ownedTupleHandOut
  have hz₆ : IsZip (h₅.push { cls := .type "tuple", data := .seq #[x, y] }) z TI TO .ellipsis := Heap.get?_push_of_some _ hz₅
  refine wpAny_bind (wpAny_setField_rec hz₆ (by simp) fun h₇ hz₇ hs₇ => ?_)
  replace hz₇ : IsZip h₇ z TI TO (rawInt h₅.objs.size) := hz₇
  refine wpAny_setField_rec hz₇ (by simp) fun h₈ hz₈ hs₈ => ?_
  replace hz₈ : IsZip h₈ z TI TO (rawInt h₅.objs.size) := hz₈
  have up : ∀ c o, c ≠ z → h₅.get? c = some o → h₈.get? c = some o := fun c o c1 e => hs₈.extBut _ _ c1 (hs₇.extBut _ _ c1 (Heap.get?_push_of_some _ e))
  have hT₈ : IsPair h₈ h₅.objs.size x y := hs₈.extBut _ _ (Nat.ne_of_gt hzlt) (hs₇.extBut _ _ (Nat.ne_of_gt hzlt) (Heap.get?_push_size _ rfl))
  have hz8 : h₈.objs.size = h₅.objs.size + 1 := by rw [hs₈.1, hs₇.1, Heap.size_push]
  rw [hsz] at hz₈ hT₈ hz8
  refine wpAny_pure ⟨_, rfl, ?_⟩
  show Q (.ref h₅.objs.size) _
  rw [hsz]
  exact hQ h₈ hz₈ (up _ _ D.TOz hTO₅) (h1₅.at fun o e => up _ o D.i1z e) (h2₅.at fun o e => up _ o D.i2z e) hT₈ hz8 fun c o c1 c2 c3 c4 e => up c o c1 (hk₅ c o c1 c2 c3 c4 e)

theorem zipM_next_end {z TI TO i1 i2 l1 l2 : Addr} {k1 k2 : Nat} {xs ys : Array Value} {a b : Value} {Q : Fin → Shared → Prop} (hh : A.handled = none) (D : ZipApart z TI TO i1 i2 l1 l2)
    (hz : IsZip s.heap z TI TO .none) (hTI : IsPair s.heap TI (.ref i1) (.ref i2)) (hTO : IsPair s.heap TO a b)
    (h1 : s.heap.IsListIter i1 l1 k1) (h2 : s.heap.IsTupleIter i2 l2 k2) (hl1 : s.heap.IsList l1 xs) (hl2 : s.heap.IsTuple l2 ys) (hend : xs[k1]? = none ∨ ys[k2]? = none)
    (hE : ∀ h' e, (∀ c o, c ≠ z → c ≠ TO → c ≠ i1 → c ≠ i2 → s.heap.get? c = some o → h'.get? c = some o) → (∃ o, h'.get? e = some o ∧ o.cls = .type "StopIteration") → E (.ref e) { s with heap := h' }) :
    wpAny (model prog w) A (Builtin.«zip.__next__» ⟨[.ref z], []⟩) Q E s := by
  show wpAny _ _ (field (.ref z) 2 >>= _) _ _ _
  refine wpAny_bind (wpAny_field hz rfl (x := .bool false) rfl ?_)
  show wpAny _ _ (field (.ref z) 3 >>= _) _ _ _
  refine wpAny_bind (wpAny_field hz rfl (x := .ref TI) rfl ?_)
  refine wpAny_bind (wpAny_seqItems hTI rfl ?_)
  show wpAny _ _ (Builtin.SmallTypes.ownedTupleIsFree (.ref z) >>= _) _ _ _
  refine wpAny_bind ?_
  unfold Builtin.SmallTypes.ownedTupleIsFree
  refine wpAny_bind (wpAny_field hz rfl (x := .none) rfl (wpAny_pure ?_))
  simp only [if_true]
  refine wpAny_bind (wpAny_rule ?_)
  refine wpAny_bind (wpAny_field hz rfl (x := .ref TO) rfl ?_)
  refine wpAny_bind (wpAny_setField_rec hz (by simp) fun h₁ hz₁ hs₁ => ?_)
  replace hz₁ : IsZip h₁ z TI TO .ellipsis := hz₁
  refine wpAny_bind ?_
  simp only [List.zipIdx_cons, List.zipIdx_nil, List.forIn_cons, List.forIn_nil]
  refine wpAny_bind (wpAny_bind (wpAny_onRaise ?_))
  show wpAny _ _ (Builtin.SmallTypes.nextOf (.ref i1) >>= _) _ _ _
  cases hx : xs[k1]? with
  | none =>
    refine wpAny_bind (wpAny_nextOf_list_end hh (h1.extBut hs₁.extBut D.i1z) (hl1.extBut hs₁.extBut D.l1z) hx fun h₂ e hs₂ he => ?_)
    obtain ⟨oe, hoe, hce⟩ := he
    have hz₂ : IsZip h₂ z TI TO .ellipsis := hs₂ _ _ D.i1z.symm hz₁
    have hez : e ≠ z := fun x => by subst x; rw [hz₂] at hoe; cases hoe; simp at hce
    refine wpAny_setField_rec hz₂ (by simp) fun h₃ _ hs₃ => hE h₃ e (fun c o c1 _ c3 _ x => hs₃.extBut _ _ c1 (hs₂ _ _ c3 (hs₁.extBut _ _ c1 x))) ⟨oe, hs₃.extBut _ _ hez hoe, hce⟩
  | some x =>
    have hy : ys[k2]? = none := by rcases hend with h | h; rw [hx] at h; cases h; exact h
    refine wpAny_bind (wpAny_nextOf_list_item (h1.extBut hs₁.extBut D.i1z) (hl1.extBut hs₁.extBut D.l1z) hx fun h₂ h1₂ hs₂ => wpAny_pure ?_)
    have hTO₂ : IsPair h₂ TO a b := hs₂.extBut _ _ D.TOi1 (hs₁.extBut _ _ D.TOz hTO)
    refine wpAny_bind (wpAny_seqItems hTO₂ rfl ?_)
    refine wpAny_bind (wpAny_updateSeq_pair hTO₂ fun h₃ hTO₃ hs₃ => ?_)
    refine wpAny_bind (wpAny_letGo (wpAny_pure ?_))
    refine wpAny_bind (wpAny_bind (wpAny_onRaise ?_))
    show wpAny _ _ (Builtin.SmallTypes.nextOf (.ref i2) >>= _) _ _ _
    refine wpAny_bind (RZ.nextOf_tuple_end hh (((h2.extBut hs₁.extBut D.i2z).extBut hs₂.extBut D.i12.symm).extBut hs₃.extBut D.TOi2.symm)
      (((hl2.extBut hs₁.extBut D.l2z).extBut hs₂.extBut D.l2i1).extBut hs₃.extBut D.l2TO) hy fun h₄ e hs₄ he => ?_)
    obtain ⟨oe, hoe, hce⟩ := he
    have hz₄ : IsZip h₄ z TI TO .ellipsis := hs₄ _ _ D.i2z.symm (hs₃.extBut _ _ D.TOz.symm (hs₂.extBut _ _ D.i1z.symm hz₁))
    have hez : e ≠ z := fun x => by subst x; rw [hz₄] at hoe; cases hoe; simp at hce
    refine wpAny_setField_rec hz₄ (by simp) fun h₅ _ hs₅ => hE h₅ e (fun c o c1 c2 c3 c4 x => hs₅.extBut _ _ c1 (hs₄ _ _ c4 (hs₃.extBut _ _ c2 (hs₂.extBut _ _ c3 (hs₁.extBut _ _ c1 x))))) ⟨oe, hs₅.extBut _ _ hez hoe, hce⟩

theorem pyNext_zipM_item {z TI TO i1 i2 l1 l2 : Addr} {k1 k2 : Nat} {xs ys : Array Value} {x y a b : Value} {Q : Option Value → Shared → Prop} (D : ZipApart z TI TO i1 i2 l1 l2)
    (hz : IsZip s.heap z TI TO .none) (hTI : IsPair s.heap TI (.ref i1) (.ref i2)) (hTO : IsPair s.heap TO a b)
    (h1 : s.heap.IsListIter i1 l1 k1) (h2 : s.heap.IsTupleIter i2 l2 k2) (hl1 : s.heap.IsList l1 xs) (hl2 : s.heap.IsTuple l2 ys) (hx : xs[k1]? = some x) (hy : ys[k2]? = some y)
    (hQ : ∀ h', IsZip h' z TI TO (rawInt s.heap.objs.size) → IsPair h' TO x y → h'.IsListIter i1 l1 (k1 + 1) → h'.IsTupleIter i2 l2 (k2 + 1) → IsPair h' s.heap.objs.size x y → h'.objs.size = s.heap.objs.size + 1 →
      (∀ c o, c ≠ z → c ≠ TO → c ≠ i1 → c ≠ i2 → s.heap.get? c = some o → h'.get? c = some o) → Q (some (.ref s.heap.objs.size)) { s with heap := h' }) :
    wpAny (model prog w) A (pyNext (.ref z)) Q E s := by
  have hT : s.TypeIs (.ref z) "zip" := ⟨_, hz, rfl⟩
  unfold pyNext
  exact wpAny_bind (wpAny_attempt (wpAny_callSpecial?_slot (name := Str.ofString "__next__") hT F.slot_zip_next
    (wpAny_call_entry F.slot_zip_next hT F.entry_zip_next
      (zipM_next_item D hz hTI hTO h1 h2 hl1 hl2 hx hy fun h' a1 a2 a3 a4 a5 a6 a7 => wpAny_pure (hQ h' a1 a2 a3 a4 a5 a6 a7)) (F.args_zip_next_1 _))))

theorem pyNext_zipM_end {z TI TO i1 i2 l1 l2 : Addr} {k1 k2 : Nat} {xs ys : Array Value} {a b : Value} {Q : Option Value → Shared → Prop} (hh : A.handled = none) (D : ZipApart z TI TO i1 i2 l1 l2)
    (hz : IsZip s.heap z TI TO .none) (hTI : IsPair s.heap TI (.ref i1) (.ref i2)) (hTO : IsPair s.heap TO a b)
    (h1 : s.heap.IsListIter i1 l1 k1) (h2 : s.heap.IsTupleIter i2 l2 k2) (hl1 : s.heap.IsList l1 xs) (hl2 : s.heap.IsTuple l2 ys) (hend : xs[k1]? = none ∨ ys[k2]? = none)
    (hQ : ∀ h', (∀ c o, c ≠ z → c ≠ TO → c ≠ i1 → c ≠ i2 → s.heap.get? c = some o → h'.get? c = some o) → Q none { s with heap := h' }) : wpAny (model prog w) A (pyNext (.ref z)) Q E s := by
  have hT : s.TypeIs (.ref z) "zip" := ⟨_, hz, rfl⟩
  unfold pyNext
  refine wpAny_bind (wpAny_attempt (wpAny_callSpecial?_slot (name := Str.ofString "__next__") hT F.slot_zip_next
    (wpAny_call_entry F.slot_zip_next hT F.entry_zip_next (zipM_next_end hh D hz hTI hTO h1 h2 hl1 hl2 hend fun h' e hk he => ?_) (F.args_zip_next_1 _))))
  obtain ⟨o, ho, hc⟩ := he
  refine wpAny_bind (wpAny_isInstance (T := "StopIteration") (b := true) ⟨o, ho, hc⟩ isSubtype_stop ?_)
  exact wpAny_pure (hQ _ hk)
end

abbrev zipMH1 (h : Heap) (l1 : Addr) : Heap := h.push { cls := .type "list_iterator", data := .fields #[.ref l1, .int 0 0] }
abbrev zipMH2 (h : Heap) (l1 l2 : Addr) : Heap := (zipMH1 h l1).push { cls := .type "tuple_iterator", data := .fields #[.ref l2, .int 0 0] }
abbrev zipMH3 (h : Heap) (l1 l2 : Addr) : Heap := (zipMH2 h l1 l2).push { cls := .type "tuple", data := .seq #[.ref h.objs.size, .ref (zipMH1 h l1).objs.size] }
abbrev zipMH4 (h : Heap) (l1 l2 : Addr) : Heap := (zipMH3 h l1 l2).push { cls := .type "tuple", data := .seq #[.none, .none] }
abbrev zipMH5 (h : Heap) (l1 l2 : Addr) : Heap := (zipMH4 h l1 l2).push { cls := .type "zip", data := .fields #[.none, .bool false, .bool false, .ref (zipMH2 h l1 l2).objs.size, .ref (zipMH3 h l1 l2).objs.size] }

theorem meets_zipM_new (l1 l2 : Addr) (xs ys : Array Value) :
    Meets (Builtin.«zip.__new__» ⟨[.type "zip", .ref l1, .ref l2], []⟩) (fun _ R s => s.heap.IsList l1 xs ∧ s.heap.IsTuple l2 ys ∧
      R (.ok (.ret (.ref (zipMH4 s.heap l1 l2).objs.size))) { s with heap := zipMH5 s.heap l1 l2 }) :=
  .of_wp fun prog w A R s h => by
    obtain ⟨hp, g, d, tk, os⟩ := s; obtain ⟨hl1, hl2, h⟩ := h
    have hsub := sub_zip
    have hL1 : Heap.IsList (Shared.heap ⟨hp, g, d, tk, os⟩) l1 xs := hl1
    have hL2 : Heap.IsTuple (Shared.heap ⟨hp.push { cls := .type "list_iterator", data := .fields #[.ref l1, .int 0 0] }, g, d, tk, os⟩) l2 ys := Heap.IsTuple.push hl2 _
    wp_walk using wpAny_pyIter_list hL1, wpAny_pyIter_tuple hL2
    exact ⟨_, rfl, h⟩

section
variable {prog : Program} {w : World} {A : Around} {E : Value → Shared → Prop} {s : Shared}

theorem call_zipM {l1 l2 : Addr} {xs ys : Array Value} {Q : Value → Shared → Prop} (hl1 : s.heap.IsList l1 xs) (hl2 : s.heap.IsTuple l2 ys)
    (h : ∀ h', IsZip h' (s.heap.objs.size + 4) (s.heap.objs.size + 2) (s.heap.objs.size + 3) .none → IsPair h' (s.heap.objs.size + 2) (.ref s.heap.objs.size) (.ref (s.heap.objs.size + 1)) →
      IsPair h' (s.heap.objs.size + 3) .none .none → h'.IsListIter s.heap.objs.size l1 0 → h'.IsTupleIter (s.heap.objs.size + 1) l2 0 → h'.objs.size = s.heap.objs.size + 5 →
      (∀ c o, s.heap.get? c = some o → h'.get? c = some o) → Q (.ref (s.heap.objs.size + 4)) { s with heap := h' }) :
    wpAny (model prog w) A (call (.type "zip") [.ref l1, .ref l2]) Q E s := by
  refine callType_new F.called_zip (by decide) (F.typeCall_zip_2 _ _) (F.newCall_zip_2 _ _) (fun obj => F.args_object_init_3 obj _ _) F.entry_zip_new
    (meets_zipM_new l1 l2 xs ys) ⟨hl1, hl2, ?_⟩
  have z1 : (zipMH1 s.heap l1).objs.size = s.heap.objs.size + 1 := Heap.size_push ..
  have z2 : (zipMH2 s.heap l1 l2).objs.size = s.heap.objs.size + 2 := by rw [Heap.size_push, z1]
  have z3 : (zipMH3 s.heap l1 l2).objs.size = s.heap.objs.size + 3 := by rw [Heap.size_push, z2]
  have z4 : (zipMH4 s.heap l1 l2).objs.size = s.heap.objs.size + 4 := by rw [Heap.size_push, z3]
  have z5 : (zipMH5 s.heap l1 l2).objs.size = s.heap.objs.size + 5 := by rw [Heap.size_push, z4]
  have g5 : (zipMH5 s.heap l1 l2).get? (zipMH4 s.heap l1 l2).objs.size = some _ := Heap.get?_push_size _ rfl
  have g4 : (zipMH5 s.heap l1 l2).get? (zipMH3 s.heap l1 l2).objs.size = some _ := Heap.get?_push_of_some _ (Heap.get?_push_size _ rfl)
  have g3 : (zipMH5 s.heap l1 l2).get? (zipMH2 s.heap l1 l2).objs.size = some _ := Heap.get?_push_of_some _ (Heap.get?_push_of_some _ (Heap.get?_push_size _ rfl))
  have g2 : (zipMH5 s.heap l1 l2).get? (zipMH1 s.heap l1).objs.size = some _ := Heap.get?_push_of_some _ (Heap.get?_push_of_some _ (Heap.get?_push_of_some _ (Heap.get?_push_size _ rfl)))
  have g1 : (zipMH5 s.heap l1 l2).get? s.heap.objs.size = some _ := Heap.get?_push_of_some _ (Heap.get?_push_of_some _ (Heap.get?_push_of_some _ (Heap.get?_push_of_some _ (Heap.get?_push_size _ rfl))))
  show _ ∧ _
  rw [z2, z3, z4] at g5
  rw [z1, z2] at g3
  rw [z3] at g4
  rw [z1] at g2
  rw [z4]
  exact ⟨⟨_, g5, rfl⟩, h _ g5 g3 g4 ⟨_, g1, rfl, rfl⟩ ⟨_, g2, rfl, rfl⟩ z5 fun c o x =>
    Heap.get?_push_of_some _ (Heap.get?_push_of_some _ (Heap.get?_push_of_some _ (Heap.get?_push_of_some _ (Heap.get?_push_of_some _ x))))⟩
end
end ZM

namespace K48
open PySem PySem.Spec PyProof.Rows L2
/-- the list at a and the tuple at b as they stand at each turn, the items in new pairs -/
def ItzM (K : PySem.W.Frag) (a b : Addr) : It :=
  ⟨fun i H => ∃ (xs ys : List V) (x y : V), SqL K H a xs ∧ SqT K H b ys ∧ xs[i]? = some x ∧ ys[i]? = some y,
    fun i H v H' => ∃ T x y, v = .ref T ∧ H T = none ∧ H' = upd H T (.tup [x, y]) ∧ (∀ xs, SqL K H a xs → xs[i]? = some x) ∧ ∀ ys, SqT K H b ys → ys[i]? = some y,
    fun i H => ∃ xs ys : List V, SqL K H a xs ∧ SqT K H b ys ∧ (xs.length ≤ i ∨ ys.length ≤ i)⟩
theorem turn_zipM {P : Program} {w : World} {K : PySem.W.Frag} {elts : List Expr} {kk : Nat} {tpos : Pos} {a b z TI TO i1 i2 : Addr} (D : ZipApart z TI TO i1 i2 a b) :
    Turn P w K (.Tuple elts kk tpos) (ItzM K a b) [z, TI, TO, i1, i2] z (fun i h => IsZip h z TI TO .none ∧ IsPair h TI (.ref i1) (.ref i2) ∧ (∃ x y, IsPair h TO x y) ∧ h.IsListIter i1 a i ∧ h.IsTupleIter i2 b i) where
  mem := by simp
  obj := fun i h st c hc => by
    obtain ⟨hz, hTI, ⟨x, y, hTO⟩, ⟨o1, e1, _, d1⟩, ⟨o2, e2, _, d2⟩⟩ := st
    have e' : c = z ∨ c = TI ∨ c = TO ∨ c = i1 ∨ c = i2 := by simpa using hc
    rcases e' with q | q | q | q | q
    · rw [q]; exact ⟨_, hz, fun v q => nomatch q⟩
    · rw [q]; exact ⟨_, hTI, fun v q => nomatch q⟩
    · rw [q]; exact ⟨_, hTO, fun v q => nomatch q⟩
    · rw [q]; exact ⟨o1, e1, fun v q => by rw [d1] at q; cases q⟩
    · rw [q]; exact ⟨o2, e2, fun v q => by rw [d2] at q; cases q⟩
  keep := fun i h h' st k => by
    obtain ⟨hz, hTI, ⟨x, y, hTO⟩, h1, h2⟩ := st
    exact ⟨k z (by simp) _ hz, k TI (by simp) _ hTI, ⟨x, y, k TO (by simp) _ hTO⟩, h1.at fun o q => k i1 (by simp) o q, h2.at fun o q => k i2 (by simp) o q⟩
  item := by
    intro X hP hw hK hc i pins s σ H E I hf st hg
    subst hP hw hK
    obtain ⟨hz, hTI, ⟨x0, y0, hTO⟩, h1, h2⟩ := st
    obtain ⟨xs, ys, x, y, hqx, hqy, hx, hy⟩ := hg
    obtain ⟨its, rv, p, _⟩ := I.list hqx
    obtain ⟨its2, rv2, p2, _⟩ := I.tuple hqy
    obtain ⟨u, hu, ru⟩ := rv.get hx
    obtain ⟨u2, hu2, ru2⟩ := rv2.get hy
    have hzl : z < s.heap.objs.size := Heap.lt_size hz
    refine ZM.pyNext_zipM_item D hz hTI hTO h1 h2 p.isList p2 (x := u) (y := u2) (by simpa using hu) (by simpa using hu2) fun h' z' TO' h1' h2' hT hsz hk => ?_
    refine ⟨_, rfl, wpAny_letOwnedTupleGo_zip (s := { s with heap := h' }) z' fun h'' z'' sb => ?_⟩
    have hT2 : h''.get? s.heap.objs.size = some { cls := .type "tuple", data := .seq #[u, u2] } := (sb.2 _ (Nat.ne_of_gt hzl)).trans hT
    have new : ObjOk X.prog X.w (upd H s.heap.objs.size (.tup [x, y])) h'' s.heap.objs.size (.tup [x, y]) :=
      ⟨by show 2 ≤ sizeLine; decide, [u, u2], .cons ru (.cons ru2 .nil), ⟨_, hT2, rfl, _, rfl⟩⟩
    have I1 : Inv X pins σ (upd H s.heap.objs.size (.tup [x, y])) { s with heap := h'' } :=
      I.turnedNew (t' := s.toks) (ch := [z, TI, TO, i1, i2]) (fun c o hb q => (sb.2 c (fun q' => hb (by simp [q']))).trans (hk c o (fun q' => hb (by simp [q'])) (fun q' => hb (by simp [q'])) (fun q' => hb (by simp [q'])) (fun q' => hb (by simp [q'])) q)) hf (Nat.le_refl _) new
    refine ⟨.ref s.heap.objs.size, _, I1, rfl, ⟨_, x, y, rfl, I.hok.fresh (Nat.le_refl _), rfl, fun l hl => by rw [I.list_inj hl hqx]; exact hx, fun l hl => by rw [I.tuple_inj hl hqy]; exact hy⟩, ⟨z'', ?_, ⟨u, u2, ?_⟩, ?_, ?_⟩, fun c hcm => ?_⟩
    · exact (sb.2 _ D.TIz).trans (hk _ _ D.TIz D.TITO D.TIi1 D.TIi2 hTI)
    · exact (sb.2 _ D.TOz).trans TO'
    · exact h1'.at fun o q => (sb.2 _ D.i1z).trans q
    · exact h2'.at fun o q => (sb.2 _ D.i2z).trans q
    · have hlt : c < s.heap.objs.size := by
        have e' : c = z ∨ c = TI ∨ c = TO ∨ c = i1 ∨ c = i2 := by simpa using hcm
        rcases e' with q | q | q | q | q
        · rw [q]; exact hzl
        · rw [q]; exact Heap.lt_size hTI
        · rw [q]; exact Heap.lt_size hTO
        · rw [q]; obtain ⟨_, e1, _⟩ := h1; exact Heap.lt_size e1
        · rw [q]; obtain ⟨_, e2, _⟩ := h2; exact Heap.lt_size e2
      rw [upd_ne (Nat.ne_of_lt hlt)]
      exact (hf c hcm).1
  done := by
    intro X hP hw hK hc i pins s σ H E I hf st hg
    subst hP hw hK
    obtain ⟨hz, hTI, ⟨x0, y0, hTO⟩, h1, h2⟩ := st
    obtain ⟨xs, ys, hqx, hqy, hend⟩ := hg
    obtain ⟨its, rv, p, _⟩ := I.list hqx
    obtain ⟨its2, rv2, p2, _⟩ := I.tuple hqy
    have l1 := rv.length
    have l2 := rv2.length
    have he : its.toArray[i]? = none ∨ its2.toArray[i]? = none := by
      rcases hend with q | q
      · exact .inl (by simp; omega)
      · exact .inr (by simp; omega)
    exact ZM.pyNext_zipM_end (I.ok.hd hc) D hz hTI hTO h1 h2 p.isList p2 he fun h' hk => ⟨rfl, I.turnedL (t' := s.toks) (ch := [z, TI, TO, i1, i2]) (fun c o hb q =>
      hk c o (fun q' => hb (by simp [q'])) (fun q' => hb (by simp [q'])) (fun q' => hb (by simp [q'])) (fun q' => hb (by simp [q'])) q) hf⟩
  self := fun A i s Q E st h => wpAny_pyIter_zip st.1 h


def iZipR (K : PySem.W.Frag) (ta : TA) : TI := fun σ H R => ta σ H fun vs H1 => ∃ a b xs ys, vs = [.ref a, .ref b] ∧ ((SqL K H1 a xs ∧ SqT K H1 b ys ∧ R (ItzM K a b) H1) ∨ (SqT K H1 a xs ∧ SqT K H1 b ys ∧ R (RZ.ItzT K a b) H1))
theorem pi_zipR {X : Cx} {e e2 : Expr} {ta : TA} {p pos tpos : Pos} {elts : List Expr} {kk : Nat} (hg : Gl X "zip") (hm : X.mg "zip" = none) (ha : PA X [e, e2] ta)
    (hs : starEach [e, e2] X.env = (false, eval e X.env) :: starEach [e2] X.env := by rfl) (hpl : (backTo pos (starEach [e2] X.env)).any (·.1) = false := by rfl) :
    PI X (.Tuple elts kk tpos) (.Call (.Name "zip" p) [e, e2] [] pos) (iZipR X.K ta) := by
  refine ⟨fun pins s σ H R I h => ?_⟩
  refine Call_ (ld_blt I hg hm PyProof.Rows.boot_zip (PyProof.Rows.callWith_type1 (thn (ha.run pos pins s σ H _ I h) fun us s1 ⟨vs, H1, I1, r1, q1⟩ => ?_) hs hpl))
  obtain ⟨a, b, xs, ys, ex, q1⟩ := q1
  subst ex
  cases r1 with
  | cons r rr =>
    cases rr with
    | cons r' rr =>
      cases rr
      cases r
      cases r'
      have fresh5 : ∀ c, c ∈ [s1.heap.objs.size + 4, s1.heap.objs.size + 2, s1.heap.objs.size + 3, s1.heap.objs.size, s1.heap.objs.size + 1] → FpOk X pins H1 c := fun c hcm => by
        have e' : c = s1.heap.objs.size + 4 ∨ c = s1.heap.objs.size + 2 ∨ c = s1.heap.objs.size + 3 ∨ c = s1.heap.objs.size ∨ c = s1.heap.objs.size + 1 := by simpa using hcm
        have hle : s1.heap.objs.size ≤ c := by
          rcases e' with z | z | z | z | z
          · rw [z]; exact Nat.le_add_right _ _
          · rw [z]; exact Nat.le_add_right _ _
          · rw [z]; exact Nat.le_add_right _ _
          · rw [z]; exact Nat.le_refl _
          · rw [z]; exact Nat.le_add_right _ _
        exact I1.fpOk hle (I1.hok.fresh hle)
      rcases q1 with ⟨hqx, hqy, q⟩ | ⟨hqx, hqy, q⟩
      · obtain ⟨its, rv, p1, _⟩ := I1.list hqx
        obtain ⟨its2, rv2, p2, _⟩ := I1.tuple hqy
        obtain ⟨o2, ho2, _⟩ := id p2
        refine ZM.call_zipM p1.isList (show s1.heap.IsTuple b its2.toArray from p2) fun h' hz hTI hTO h1 h2 hsz hk => wpAny_pyIter_zip hz ?_
        have I2 : Inv X pins σ H1 { s1 with heap := h' } := I1.kept (t' := s1.toks) hk
        exact ⟨s1.heap.objs.size + 4, [s1.heap.objs.size + 4, s1.heap.objs.size + 2, s1.heap.objs.size + 3, s1.heap.objs.size, s1.heap.objs.size + 1], _, _, H1, rfl, I2, turn_zipM (PySem.W.ktu_apart s1.heap.objs.size a b p1.lt (Heap.lt_size ho2)), ⟨hz, hTI, ⟨_, _, hTO⟩, h1, h2⟩, fresh5, q⟩
      · obtain ⟨its, rv, p1, _⟩ := I1.tuple hqx
        obtain ⟨its2, rv2, p2, _⟩ := I1.tuple hqy
        obtain ⟨o1, ho1, _⟩ := id p1
        obtain ⟨o2, ho2, _⟩ := id p2
        refine RZ.call_zipT (show s1.heap.IsTuple a its.toArray from p1) (show s1.heap.IsTuple b its2.toArray from p2) fun h' hz hTI hTO h1 h2 hsz hk => wpAny_pyIter_zip hz ?_
        have I2 : Inv X pins σ H1 { s1 with heap := h' } := I1.kept (t' := s1.toks) hk
        exact ⟨s1.heap.objs.size + 4, [s1.heap.objs.size + 4, s1.heap.objs.size + 2, s1.heap.objs.size + 3, s1.heap.objs.size, s1.heap.objs.size + 1], _, _, H1, rfl, I2, RZ.turn_zipT (PySem.W.ktu_apart s1.heap.objs.size a b (Heap.lt_size ho1) (Heap.lt_size ho2)), ⟨hz, hTI, ⟨_, _, hTO⟩, h1, h2⟩, fresh5, q⟩
end K48

namespace K48
open PySem PySem.Spec PyProof.Rows L2
/-! ### comprehensions over zip -/
def ItzG (A B : Hp → List V → Prop) : It :=
  ⟨fun i H => ∃ (xs ys : List V) (x y : V), A H xs ∧ B H ys ∧ xs[i]? = some x ∧ ys[i]? = some y,
    fun i H v H' => ∃ T x y, v = .ref T ∧ H T = none ∧ H' = upd H T (.tup [x, y]) ∧ (∀ xs, A H xs → xs[i]? = some x) ∧ ∀ ys, B H ys → ys[i]? = some y,
    fun i H => ∃ xs ys : List V, A H xs ∧ B H ys ∧ (xs.length ≤ i ∨ ys.length ≤ i)⟩
theorem lc_zipG {A B : Hp → List V → Prop} {xs ys zs : List V} {g : TG} {te : TE} {vs : List Nat} {σ : L2.St} {H1 : Hp} {D : Addr} {Qd : Hp → Prop} (hA : ∀ H, Same H1 H → A H xs) (hB : ∀ H, Same H1 H → B H ys) (ly : ys.length = xs.length) (lz : zs.length = xs.length) (hlen : xs.length ≤ 1000) (hD : H1 D = none)
    (hs : ∀ (i : Nat) x y z T H, xs[i]? = some x → ys[i]? = some y → zs[i]? = some z → Same H1 H → H T = some (.tup [x, y]) → ∀ Q : VK, (∀ H4, Same H H4 → Q z H4) → g (.ref T) (wipe σ vs) H fun σ2 H2 => wipe σ2 vs = wipe σ vs ∧ te σ2 H2 Q)
    (hd : ∀ H, Same H1 H → H D = some (.lst zs) → Qd H) :
    ∃ W : Nat → Nat → Hp → Prop, (∃ m, W 0 m (upd H1 D (.lst []))) ∧ ∀ i m H, W i m H →
      ((ItzG A B).stop i H ∧ Qd H) ∨ ((ItzG A B).go i H ∧ ∃ Nx : Hp → Prop, (∀ H', Nx H' → ∃ m', m' < m ∧ W (i + 1) m' H') ∧ ∀ x H', (ItzG A B).yld i H x H' → g x (wipe σ vs) H' fun σ2 H2 => wipe σ2 vs = wipe σ vs ∧ tYes σ2 H2 fun b H3 =>
        if b = true then te σ2 H3 fun y H4 => ∃ acc, H4 D = some (.lst acc) ∧ acc.length < sizeLine ∧ Nx (upd H4 D (.lst (acc ++ [y]))) else Nx H3) := by
  refine ⟨fun i m H => m = xs.length - i ∧ i ≤ xs.length ∧ Same H1 H ∧ H D = some (.lst (zs.take i)), ⟨xs.length, by simp, Nat.zero_le _, same_new hD, upd_same⟩, ?_⟩
  rintro i m H ⟨rfl, hi, s1, hd1⟩
  by_cases hlt : i < xs.length
  · have hx : xs[i]? = some xs[i] := List.getElem?_eq_getElem hlt
    have hy : ys[i]? = some (ys[i]'(by omega)) := List.getElem?_eq_getElem (by omega)
    have hz : zs[i]? = some (zs[i]'(by omega)) := List.getElem?_eq_getElem (by omega)
    refine .inr ⟨⟨xs, ys, _, _, hA H s1, hB H s1, hx, hy⟩, fun H' => Same H1 H' ∧ H' D = some (.lst (zs.take (i + 1))), fun H' p' => ⟨xs.length - (i + 1), by omega, rfl, hlt, p'⟩, fun v H' y => ?_⟩
    obtain ⟨T, x, y, rfl, nT, rfl, q1, q2⟩ := y
    have e1 := q1 _ (hA H s1)
    have e2 := q2 _ (hB H s1)
    refine hs i x y _ T _ e1 e2 hz (same_upd s1 (s1.free nT)) upd_same _ fun H4 s4 => ?_
    have hD4 : H4 D = some (.lst (zs.take i)) := s4 _ _ (by rw [upd_ne (ne_of_none hd1 nT)]; exact hd1)
    have s5 : Same H1 H4 := (same_upd s1 (s1.free nT)).trans s4
    refine ⟨_, hD4, by rw [List.length_take, sizeLine_eq]; omega, same_upd s5 hD, ?_⟩
    rw [upd_same, vals_inv lz hx hz]
  · have e : i = xs.length := by omega
    subst e
    refine .inl ⟨⟨xs, ys, hA H s1, hB H s1, .inl (Nat.le_refl _)⟩, hd H s1 ?_⟩
    rw [← lz, List.take_length] at hd1
    exact hd1
/-- a tuple taken into two names -/
theorem g_two {K : PySem.W.Frag} {i j : Nat} {T : Addr} {x y : V} {σ : L2.St} {H : Hp} {R : L2.St → Hp → Prop} (h : H T = some (.tup [x, y])) (k : R ((σ.set i (some x)).set j (some y)) H) : gTup K 2 (gCons (gName i) (gCons (gName j) gNil)) (.ref T) σ H R :=
  ⟨T, _, rfl, SqT.of h, rfl, _, _, rfl, _, _, rfl, rfl, k⟩
/-! ### prices -/
def priceD : PyData → Bool
  | .int i => decide (0 ≤ i)
  | _ => false
def PrOk (d : PyData) (n : Nat) (ps : List Int) : Prop := rowD d = some (ps.map PyData.int) ∧ ps.length = n ∧ ∀ p ∈ ps, 0 ≤ p
def PrBad (d : PyData) (n : Nat) : Prop := rowD d = none ∨ ∃ ds, rowD d = some ds ∧ (ds.length ≠ n ∨ ∃ e ∈ ds, priceD e = false)
theorem pr_not {d : PyData} {n : Nat} {ps : List Int} (h : PrOk d n ps) (b : PrBad d n) : False := by
  obtain ⟨h1, h2, h3⟩ := h
  rcases b with b | ⟨ds, b1, b2⟩
  · rw [h1] at b
    cases b
  · rw [h1] at b1
    cases b1
    rcases b2 with b2 | ⟨e, he, b2⟩
    · rw [List.length_map] at b2
      exact b2 h2
    · obtain ⟨p, hp, rfl⟩ := List.mem_map.mp he
      have := h3 p hp
      rw [show priceD (.int p) = decide (0 ≤ p) from rfl, decide_eq_true this] at b2
      cases b2
section
variable {P : Program} {w : World} {K : PySem.W.Frag} {mg : Str → Option Value} {base : Heap}
def spCheckPrices (C : Addr) : Sp := fun vs H Q E => ∃ (x : V) (d : PyData) (n : Nat), vs = [x, .int n] ∧ Da H d x ∧ short d ∧
  (((∃ ps, PrOk d n ps) ∧ ∀ H', Same H H' → Q .non H') ∨ (PrBad d n ∧ ∀ H' dd, Same H H' → H' dd = some (.xd [("value", x)]) → E (.ref C) (some dd) H'))
abbrev nCP : List Str := ["value", "many", "item"]
theorem sc_check_prices : FnScope nCP ["value", "many"] (defScope s_check_prices) := ⟨rfl, rfl, rfl, by decide +kernel, rfl, by decide +kernel, by decide +kernel⟩
theorem ca_check_prices (T : Tx K mg) : Ca P w K mg base (L2.CX P w) 3 "check_prices" (spCheckPrices (cBR K)) := by
  refine caX T.f_check_prices T.m_check_prices sc_check_prices (fun _ _ _ _ _ _ us hl => match us, hl with | [_, _], _ => rfl) (fun vs H Q E h => ?_) (fun cdv A outer s H vs Q E hr h => ?_)
  · obtain ⟨x, d, n, rfl, _⟩ := h
    rfl
  · obtain ⟨x, d, n, rfl, hd, hsh, k⟩ := h
    have c1 := ca_is_row (P := P) (w := w) (base := base) T
    have c2 := ca_is_int (P := P) (w := w) (base := base) T
    have o := T.o_BadRow
    obtain ⟨fd, ps, F1, hb⟩ := ex_BR (P := P) (w := w) (base := base) T
    refine ⟨_, pss_one (ps_if (PW.pt (pw_or (pt_not (pt_val (pe_ca c1 hr (pa_cons (pv 0) pa_nil)))) (pw_or (pt_cmpR op_ne (pe_callB call_len_seq (by rfl) T.z_len PySem.boot_len (pa_cons (pv 0) pa_nil)) (pv 1) (nomark _)) (pw_or1 (pt_val (pe_callB (cr_any rfl) (by rfl) T.z_any (by decide +kernel) (pa_cons
          (pe_lc (te := tOrV (tNotV (tCall spIsInt [] E0 (tCons (tVar 2) tNil))) (tOp (rI0 fun i j => V.bl (decide (i < j))) (tVar 2) (tC (.int 0)))) (own := [("item", 2)]) (g := gName 2) (tt := tYes) rfl sc_check_prices.nd (pi_or (pi_list (pv 0)) (pi_tup (pv 0))) (blkOk_by (N := nCP) (sc := defScope s_check_prices) (by decide +kernel)) (fun _ _ _ _ _ => pg_name (i := 2) sc_check_prices.nd rfl (Or.inl rfl))
            (fun _ _ _ _ _ => pts_nil) (fun _ _ _ _ _ => pe_or (pe_not (pe_ca c2 hr (pa_cons (pv 2) pa_nil))) (pe_one (pe_cmpR op_lt (pv 2) pe_int (nomark _))))) pa_nil)))))))
        (pss_one (ps_raise rfl (takes_of rfl rfl rfl rfl) (pmk_oex o.o o.i o.t F1 hr hb .nil pass0 (by rfl) T.m_BadRow (pa_cons (pv 0) pa_nil)))) pss_nil), ?_⟩
    have bad : PrBad d n → ∀ H1, Same H H1 → ∀ dd, H1 dd = none → E (.ref (cBR K)) (some dd) (upd H1 dd (.xd [("value", x)])) := fun b H1 s1 dd nd => by
      rcases k with ⟨⟨ps, h⟩, _⟩ | ⟨_, k⟩
      · exact (pr_not h b).elim
      · exact k _ dd (same_upd s1 (s1.free nd)) upd_same
    cases er : rowD d with
    | none =>
      refine ⟨_, rfl, _, _, rfl, row_da hd (rowD_none er), fun H1 s1 => ⟨_, rfl, if_t rfl ?_⟩⟩
      exact if_t rfl ⟨_, rfl, rBR (bad (.inl er) H1 s1)⟩
    | some ds =>
      obtain ⟨a, xs, rfl, hrow, hx⟩ := rowD_da hd er
      have lx := hx.length
      have lds := hsh ds er
      refine ⟨_, rfl, _, _, rfl, hrow.row, fun H1 s1 => ⟨_, rfl, if_f rfl ?_⟩⟩
      refine ⟨_, rfl, a, xs, rfl, (hrow.same s1).ixl, _, rfl, rfl, _, rfl, ?_⟩
      refine if_b (fun c => ?_) fun c => ?_
      · have cn : ds.length ≠ n := fun e => by
          rw [lx, e, decide_eq_true rfl] at c
          cases c
        exact if_t rfl ⟨_, rfl, rBR (bad (.inr ⟨ds, er, .inl cn⟩) H1 s1)⟩
      · have cn : ds.length = n := by
          cases q : decide (V.int ((xs.length : Nat) : Int) = V.int (n : Int)) with
          | false =>
            rw [q] at c
            cases c
          | true =>
            have := V.int.inj (of_decide_eq_true q)
            omega
        unfold tB tCB tCons
        refine tlc_rowN (ys := ds.map fun d => V.bl (!priceD d)) (fun Q q => ⟨_, rfl, q⟩) (hrow.same s1) (by rw [List.length_map, lx]) (by omega) ?_ ?_
        · intro i x y H2 hi hy s2 Q2 k2
          obtain ⟨d', h1, h2⟩ := (hx.kp (Kp.of (s1.trans s2))).get hi
          rw [List.getElem?_map, h1] at hy
          cases hy
          refine ⟨_, rfl, _, _, rfl, h2.kd, _, rfl, ?_⟩
          cases d' with
          | int i =>
            obtain rfl := Da.int.mp h2
            refine ⟨_, rfl, if_f rfl ⟨_, rfl, _, _, rfl, rfl, q_bl (k2 H2 (Same.refl _)) ?_⟩⟩
            show decide (i < 0) = !decide (0 ≤ i)
            by_cases q : i < 0
            · rw [decide_eq_true q, decide_eq_false (by omega)]
              rfl
            · rw [decide_eq_false q, decide_eq_true (by omega)]
              rfl
          | dict _ => simp only [Da] at h2
          | _ => exact ⟨_, rfl, if_t rfl (k2 H2 (Same.refl _))⟩
        · intro H2 D nD s2 hD
          have hb2 : ds.map (fun d => V.bl (!priceD d)) = (ds.map fun d => !priceD d).map V.bl := by
            rw [List.map_map]
            rfl
          rw [hb2] at hD
          have s12 := s1.trans s2
          refine ⟨D, _, rfl, SqL.of hD, _, rfl, ?_⟩
          refine if_b (fun c => ?_) fun c => ?_
          · obtain ⟨b, hb1, hb3⟩ := List.any_eq_true.mp c
            obtain ⟨e, he, rfl⟩ := List.mem_map.mp hb1
            refine ⟨_, rfl, rBR (bad (.inr ⟨ds, er, .inr ⟨e, he, ?_⟩⟩) H2 s12)⟩
            cases q : priceD e with
            | false => rfl
            | true =>
              rw [q] at hb3
              cases hb3
          · rcases k with ⟨_, k⟩ | ⟨b, _⟩
            · exact k H2 s12
            · exfalso
              rcases b with b | ⟨ds', b1, b2⟩
              · rw [b] at er
                cases er
              · rw [er] at b1
                cases b1
                rcases b2 with b2 | ⟨e, he, b2⟩
                · exact b2 cn
                · have : (List.map (fun d => !priceD d) ds).any id = true := List.any_eq_true.mpr ⟨true, List.mem_map.mpr ⟨e, he, by rw [b2]; rfl⟩, rfl⟩
                  rw [this] at c
                  cases c
/-- a Code at c, its Steps at as -/
def CodeS (C CS : Addr) (H : Hp) (c : Addr) (as : List Addr) (ss : List Sp1) : Prop := ∃ dx t, H c = some (.ins C dx (codeFs (.ref t))) ∧ H t = some (.tup (as.map V.ref)) ∧ as.length = ss.length ∧ ∀ (i : Nat) a s, as[i]? = some a → ss[i]? = some s → StepAt CS H a s
theorem stepAt_same {C : Addr} {H H' : Hp} {a : Addr} {s : Sp1} (e : Same H H') (h : StepAt C H a s) : StepAt C H' a s := StepAt.same (M := fun _ => False) (Sx.ofSame e) (Kp.of e) (fun z => z) h
theorem CodeS.same {C CS : Addr} {H H' : Hp} {c : Addr} {as : List Addr} {ss : List Sp1} (e : Same H H') (h : CodeS C CS H c as ss) : CodeS C CS H' c as ss := by
  obtain ⟨dx, t, h1, h2, h3, h4⟩ := h
  exact ⟨dx, t, e _ _ h1, e _ _ h2, h3, fun i a s h5 h6 => stepAt_same e (h4 i a s h5 h6)⟩
/-- steps that are few, with few moves -/
structure StepsOk (ss : List Sp1) : Prop where
  l : ss.length ≤ 100
  m : ∀ s ∈ ss, s.ok
def cost : List Int → List Sp1 → Int
  | p :: ps, s :: ss => p * s.count + cost ps ss
  | _, _ => 0
theorem cost_zip : ∀ (ps : List Int) (ss : List Sp1), (List.zipWith (fun p s => p * s.count) ps ss).sum = cost ps ss
  | [], _ => by simp [cost]
  | _ :: _, [] => by simp [cost]
  | p :: ps, s :: ss => by
    rw [List.zipWith_cons_cons, List.sum_cons, cost_zip ps ss]
    rfl
def spCodeCost (CB C CS : Addr) : Sp := fun vs H Q E => ∃ (c : Addr) (x : V) (d : PyData) (as : List Addr) (ss : List Sp1), vs = [.ref c, x] ∧ CodeS C CS H c as ss ∧ StepsOk ss ∧ Da H d x ∧ short d ∧
  ((∃ ps, PrOk d ss.length ps ∧ (∀ p ∈ ps, p ≤ 1000000) ∧ ∀ H', Same H H' → Q (.int (cost ps ss)) H') ∨ (PrBad d ss.length ∧ ∀ H' dd, Same H H' → H' dd = some (.xd [("value", x)]) → E (.ref CB) (some dd) H'))
abbrev nCC : List Str := ["code", "prices", "price", "step"]
theorem sc_code_cost : FnScope nCC ["code", "prices"] (defScope s_code_cost) := ⟨rfl, rfl, rfl, by decide +kernel, rfl, by decide +kernel, by decide +kernel⟩
theorem ca_code_cost (T : Tx K mg) : Ca P w K mg base (L2.CX P w) 4 "code_cost" (spCodeCost (cBR K) (He.ga K "Code") (He.ga K "Step")) := by
  refine caX T.f_code_cost T.m_code_cost sc_code_cost (fun _ _ _ _ _ _ us hl => match us, hl with | [_, _], _ => rfl) (fun vs H Q E h => ?_) (fun cdv A outer s H vs Q E hr h => ?_)
  · obtain ⟨c, x, d, as, ss, rfl, _⟩ := h
    rfl
  · obtain ⟨c, x, d, as, ss, rfl, ⟨dx, t, hc, ht, las, hst⟩, hok, hd, hsh, k⟩ := h
    have c1 := ca_check_prices (P := P) (w := w) (base := base) T
    have c2 := ca_step_pieces (P := P) (w := w) (base := base) T
    have las2 := hok.l
    refine ⟨_, pss_cons (ps_expr (pe_caE E c1 hr (takes_of rfl rfl rfl rfl) (pa_cons (pv 1) (pa_cons (pe_callB call_len_seq (by rfl) T.z_len PySem.boot_len (pa_cons (pe_fld (pv 0) rfl) pa_nil)) pa_nil))))
      (pss_one (ps_ret (pe_callB (cr_sum rfl) (by rfl) T.z_sum (by decide +kernel) (pa_cons
          (pe_lc (te := tOp (rI CMul fun i j => .int (i * j)) (tVar 2) (tCall (spStepPieces (He.ga K "Step")) [] E0 (tCons (tVar 3) tNil))) (own := [("price", 2), ("step", 3)]) (g := gTup K 2 (gCons (gName 2) (gCons (gName 3) gNil))) (tt := tYes) rfl sc_code_cost.nd (pi_zipR (by rfl) T.z_zip (pa_cons (pv 1) (pa_cons (pe_fld (pv 0) rfl) pa_nil))) (blkOk_by (N := nCC) (sc := defScope s_code_cost) (by decide +kernel))
            (fun _ _ _ _ _ => pg_tup rfl (pgs_cons (pg_name (i := 2) sc_code_cost.nd rfl (Or.inl rfl)) (pgs_cons (pg_name (i := 3) sc_code_cost.nd rfl (Or.inl rfl)) pgs_nil))) (fun _ _ _ _ _ => pts_nil)
            (fun _ _ _ _ _ => pe_op op_mul (pv 2) (pe_ca c2 hr (pa_cons (pv 3) pa_nil)))) pa_nil)))), ?_⟩
    refine ⟨_, rfl, _, rfl, c, _, dx, _, _, rfl, hc, T.c_Code, T.n_Code_steps, codeFs_steps, t, _, rfl, .inr (SqT.of ht), x, d, ss.length, by rw [List.length_map, las]; rfl, hd, hsh, ?_⟩
    rcases k with ⟨ps, hp, hb, k⟩ | ⟨b, k⟩
    · refine .inl ⟨⟨ps, hp⟩, fun H1 s1 => ?_⟩
      obtain ⟨a, xs, rfl, hrow, hx⟩ := rowD_da hd hp.1
      have lx := hx.length
      rw [List.length_map] at lx
      have lps := hp.2.1
      have exs : xs = ps.map V.int := by
        refine list_of_get (by rw [lx, List.length_map]) fun i v hv => ?_
        obtain ⟨d', h1, h2⟩ := hx.get hv
        rw [List.getElem?_map] at h1 ⊢
        cases q : ps[i]? with
        | none =>
          rw [q] at h1
          cases h1
        | some p =>
          rw [q] at h1
          cases h1
          rw [Da.int.mp h2]
          rfl
      refine ⟨_, rfl, _, rfl, c, _, dx, _, _, rfl, s1 _ _ hc, T.c_Code, T.n_Code_steps, codeFs_steps, a, t, xs, as.map V.ref, rfl, ?_⟩
      have fin : ∀ (D : Addr) (H2 : Hp), Same H1 H2 → H2 D = some (.lst ((List.zipWith (fun p s => p * s.count) ps ss).map V.int)) → ∃ (a : Addr) (ns : List Int), [V.ref D] = [V.ref a] ∧ SqL K H2 a (ns.map V.int) ∧ Q (.int ns.sum) H2 := fun D H2 s2 hD =>
        ⟨D, _, rfl, SqL.of hD, by rw [cost_zip]; exact k H2 (s1.trans s2)⟩
      have el : ∀ (i : Nat) x y z T' H2, xs[i]? = some x → (as.map V.ref)[i]? = some y → ((List.zipWith (fun p s => p * s.count) ps ss).map V.int)[i]? = some z → Same H1 H2 → H2 T' = some (.tup [x, y]) → ∀ Q2 : VK, (∀ H4, Same H2 H4 → Q2 z H4) →
          gTup K 2 (gCons (gName 2) (gCons (gName 3) gNil)) (.ref T') (wipe (L2.start nCC [.ref c, .ref a]) [2, 3]) H2 fun σ2 H3 => wipe σ2 [2, 3] = wipe (L2.start nCC [.ref c, .ref a]) [2, 3] ∧ tOp (rI CMul fun i j => .int (i * j)) (tVar 2) (tCall (spStepPieces (He.ga K "Step")) [] E0 (tCons (tVar 3) tNil)) σ2 H3 Q2 := by
        intro i x y z T' H2 hi hy hz s2 hT Q2 k2
        rw [exs, List.getElem?_map] at hi
        rw [List.getElem?_map] at hy hz
        cases qp : ps[i]? with
        | none =>
          rw [qp] at hi
          cases hi
        | some p =>
          rw [qp] at hi
          cases hi
          cases qa : as[i]? with
          | none =>
            rw [qa] at hy
            cases hy
          | some b =>
            rw [qa] at hy
            cases hy
            have il : i < ss.length := by
              rw [← las]
              exact (List.getElem?_eq_some_iff.mp qa).1
            have qs : ss[i]? = some ss[i] := List.getElem?_eq_getElem il
            rw [List.getElem?_zipWith, qp, qs] at hz
            cases hz
            refine g_two hT ⟨rfl, ?_⟩
            have hS := stepAt_same (s1.trans s2) (hst i b _ qa qs)
            refine ⟨_, rfl, _, rfl, b, _, rfl, hS, (hok.m _ (List.mem_of_getElem? qs)).m, fun H4 s4 => ⟨_, _, rfl, rfl, .inl ?_, k2 H4 s4⟩⟩
            have h0 := hp.2.2 p (List.mem_of_getElem? qp)
            have h1 := hb p (List.mem_of_getElem? qp)
            show -(2 ^ 64) < p ∧ p < 2 ^ 64
            omega
      have lz : ((List.zipWith (fun p s => p * s.count) ps ss).map V.int).length = xs.length := by
        rw [List.length_map, List.length_zipWith, lx, lps]
        omega
      have ly : (as.map V.ref).length = xs.length := by rw [List.length_map, lx, lps, las]
      rcases hrow.same s1 with hr2 | hr2
      · refine .inl ⟨SqL.of hr2, SqT.of (s1 _ _ ht), fun D nD => ?_⟩
        exact lc_zipG (A := fun H xs => SqL K H a xs) (B := fun H ys => SqT K H t ys) (fun H2 s2 => SqL.of (s2 _ _ hr2)) (fun H2 s2 => SqT.of (s2 _ _ (s1 _ _ ht))) ly lz (by omega) nD el fun H2 s2 hD => fin D H2 s2 hD
      · refine .inr ⟨SqT.of hr2, SqT.of (s1 _ _ ht), fun D nD => ?_⟩
        exact lc_zipG (A := fun H xs => SqT K H a xs) (B := fun H ys => SqT K H t ys) (fun H2 s2 => SqT.of (s2 _ _ hr2)) (fun H2 s2 => SqT.of (s2 _ _ (s1 _ _ ht))) ly lz (by omega) nD el fun H2 s2 hD => fin D H2 s2 hD
    · exact .inr ⟨b, k⟩
end
end K48

namespace K48
open PySem PySem.Spec PyProof.Rows L2
/-! ### a run's instance -/
def resV : Option Int → V
  | none => .non
  | some i => .int i
def drFs (d : Addr) (r : Run) : List (Str × V) := [("held", .ref d), ("point", .int r.point), ("turns", .int r.turns), ("pieces", .int r.pieces), ("result", resV r.value)]
theorem drFs_held {d r} : (drFs d r).lookup ("held" : Str) = some (.ref d) := by
  first | rfl | simp [drFs, List.lookup] | decide
theorem drFs_point {d r} : (drFs d r).lookup ("point" : Str) = some (.int r.point) := by
  first | rfl | simp [drFs, List.lookup] | decide
theorem drFs_turns {d r} : (drFs d r).lookup ("turns" : Str) = some (.int r.turns) := by
  first | rfl | simp [drFs, List.lookup] | decide
theorem drFs_pieces {d r} : (drFs d r).lookup ("pieces" : Str) = some (.int r.pieces) := by
  first | rfl | simp [drFs, List.lookup] | decide
theorem drFs_result {d r} : (drFs d r).lookup ("result" : Str) = some (resV r.value) := by
  first | rfl | simp [drFs, List.lookup] | decide
theorem drFs_advance {d r} : (drFs d r).lookup ("advance" : Str) = none := by
  first | rfl | simp [drFs, List.lookup] | decide
theorem drFs_few {d r} : (drFs d r).length < 1000 := by
  show 5 < 1000
  omega
theorem put_result {d r} (o : Option Int) : putF "result" (resV o) (drFs d r) = drFs d { r with value := o } := by
  first | rfl | simp [putF, drFs]
theorem put_turns {d r} (i : Int) : putF "turns" (.int i) (drFs d r) = drFs d { r with turns := i } := by
  first | rfl | simp [putF, drFs]
theorem put_pieces {d r} (i : Int) : putF "pieces" (.int i) (drFs d r) = drFs d { r with pieces := i } := by
  first | rfl | simp [putF, drFs]
theorem put_point {d r} (i : Int) : putF "point" (.int i) (drFs d r) = drFs d { r with point := i } := by
  first | rfl | simp [putF, drFs]
theorem put_first {d : Addr} {h : Held} : putF "result" .non (putF "pieces" (.int 0) (putF "turns" (.int 0) (putF "point" (.int 0) (putF "held" (.ref d) [])))) = drFs d ⟨0, h, 0, 0, none⟩ := by
  first | rfl | simp [putF, drFs, resV]
theorem drFs_at {d : Addr} {r : Run} {h : Held} : drFs d { r with held := h } = drFs d r := rfl
section
variable {P : Program} {w : World} {K : PySem.W.Frag} {mg : Str → Option Value} {base : Heap}
/-! advance -/
theorem kp_two {C x d : Addr} {H H' : Hp} {dx : Addr} {fs : List (Str × V)} {kvs : List (Key × V)} (hx : H x = some (.ins C dx fs)) (hd : H d = some (.dK kvs)) (e : Sx (fun b => b = x ∨ b = d) H H') : Kp H H' := e.kp fun b hb => by
  rcases hb with rfl | rfl
  · refine ⟨fun xs q => ?_, fun xs q => ?_⟩ <;> (rw [hx] at q; cases q)
  · refine ⟨fun xs q => ?_, fun xs q => ?_⟩ <;> (rw [hd] at q; cases q)
theorem stepAt_two {C CS x d : Addr} {H H' : Hp} {dx : Addr} {fs : List (Str × V)} {kvs : List (Key × V)} {a : Addr} {s : Sp1} (ne : a ≠ x) (hx : H x = some (.ins C dx fs)) (hd : H d = some (.dK kvs)) (e : Sx (fun b => b = x ∨ b = d) H H') (h : StepAt CS H a s) : StepAt CS H' a s := by
  refine StepAt.same e (kp_two hx hd e) ?_ h
  obtain ⟨dy, dv, mv, h1, _⟩ := h
  rintro (z | z)
  · exact ne z
  · rw [z, hd] at h1
    cases h1
def spAdvance (C CS : Addr) : Sp := fun vs H Q _ => ∃ (x a dx d : Addr) (s : Sp1) (r : Run), vs = [.ref x, .ref a] ∧ H x = some (.ins C dx (drFs d r)) ∧ r.value = none ∧ StepAt CS H a s ∧ s.ok ∧ H d = some (.dK (hv r.held)) ∧ r.held.length ≤ 100000 ∧
  ∀ H', Sx (fun b => b = x ∨ b = d) H H' → H' x = some (.ins C dx (drFs d (r.next s))) → H' d = some (.dK (hv (r.next s).held)) → Q .non H'
abbrev nAd : List Str := ["self", "step"]
theorem sc_advance : FnScope nAd nAd (defScope s_Drive_advance) := ⟨rfl, rfl, rfl, by decide +kernel, rfl, by decide +kernel, by decide +kernel⟩
theorem me_advance (T : Tx K mg) : Me P w K mg base CX0 5 (He.ga K "Drive") "advance" (spAdvance (He.ga K "Drive") (He.ga K "Step")) := by
  refine me0 T.f_Drive_advance T.c_Drive T.e_Drive sc_advance (fun _ _ _ _ _ _ us hl => match us, hl with | [_, _], _ => rfl) (fun vs H Q E h => ?_) (fun cdv A outer s H vs Q E hr h => ?_)
  · obtain ⟨x, a, dx, d, s, r, rfl, _⟩ := h
    rfl
  · obtain ⟨x, a, dx, d, z, r, rfl, hx, hv0, hS, hok, hh, hlen, k⟩ := h
    have c1 := ca_operand_now (P := P) (w := w) (base := base) T
    have c2 := ca_do_step (P := P) (w := w) (base := base) T
    have c3 := ca_step_pieces (P := P) (w := w) (base := base) T
    refine ⟨_, C8.pss_cut (ps_if (pt_cmpR op_eq (pe_ix ix_tup (pe_fld (pv 1) rfl) pe_int (fun _ _ => rfl)) pe_str (nomark _)) (pss_one (ps_fld (pv 0) (pe_ca c1 hr (pa_cons (pe_ix ix_tup (pe_fld (pv 1) rfl) pe_int (fun _ _ => rfl)) (pa_cons (pe_fld (pv 0) rfl) pa_nil))) rfl)) pss_nil)
      (pss_cons (ps_expr (pe_ca c2 hr (pa_cons (pv 1) (pa_cons (pe_fld (pv 0) rfl) pa_nil))))
      (pss_cons (ps_fldaug (pv 0) pe_int in_add) (pss_cons (ps_fldaug (pv 0) (pe_ca c3 hr (pa_cons (pv 1) pa_nil)) in_add) (pss_one (ps_fld (pv 0) (pe_fld (pv 1) rfl) rfl))))), ?_⟩
    have xd : x ≠ d := fun e => by
      rw [e, hh] at hx
      cases hx
    have ne : a ≠ x := fun e => by
      obtain ⟨dy, dv, mv, h1, _⟩ := hS
      rw [e, hx] at h1
      have q := congrArg (fun o : Option HO => match o with | some (.ins _ _ fs) => fs.length | _ => 0) h1
      have q2 : (5 : Nat) = 4 := q
      omega
    refine ⟨fun σ' H' => σ' = [some (.ref x), some (.ref a)] ∧ Sx (· = x) H H' ∧ H' x = some (.ins (He.ga K "Drive") dx (drFs d { r with value := z.deed.gives r.held })), ?_, ?_⟩
    · obtain ⟨dy, dv, mv, h1, h2, h3⟩ := hS
      obtain ⟨sst, sd, sm, sf⟩ := z
      have stay : r.value = none → drFs d { r with value := none } = drFs d r := fun e => by
        obtain ⟨a1, a2, a3, a4, a5⟩ := r
        subst e
        rfl
      cases sd with
      | give o =>
        obtain ⟨b, xs, rfl, hb, h4⟩ := Da.tup.mp h2
        obtain ⟨v1, r1, rfl, e1, h5⟩ := DaL.cons.mp h4
        obtain rfl := Da.str.mp e1
        obtain ⟨v2, r2, rfl, e2, h6⟩ := DaL.cons.mp h5
        refine ⟨_, rfl, a, _, dy, _, _, rfl, h1, T.c_Step, T.n_Step_deed, stepFs_deed, b, _, _, _, rfl, rfl, SqT.of hb, at0 _ _, rfl, _, rfl, if_t (decide_eq_true rfl) ?_⟩
        refine ⟨_, rfl, a, _, dy, _, _, rfl, h1, T.c_Step, T.n_Step_deed, stepFs_deed, b, _, _, _, rfl, rfl, SqT.of hb, at1 _ _ _, _, rfl, x, _, dx, _, _, rfl, hx, T.c_Drive, T.n_Drive_held, drFs_held, v2, o, d, r.held, rfl, e2, hh, ?_⟩
        refine ⟨_, rfl, x, _, dx, _, rfl, hx, T.c_Drive, T.n_Drive_result, drFs_few, rfl, (Sx.refl _ _).at rfl, ?_⟩
        rw [upd_same]
        show some (HO.ins _ dx (putF "result" (resV (some (o.now r.held))) (drFs d r))) = _
        rw [put_result]
        rfl
      | set t v =>
        obtain ⟨b, xs, rfl, hb, h4⟩ := Da.tup.mp h2
        obtain ⟨v1, r1, rfl, e1, h5⟩ := DaL.cons.mp h4
        obtain rfl := Da.str.mp e1
        refine ⟨_, rfl, a, _, dy, _, _, rfl, h1, T.c_Step, T.n_Step_deed, stepFs_deed, b, _, _, _, rfl, rfl, SqT.of hb, at0 _ _, rfl, _, rfl, if_f (sne "set" "give") ⟨rfl, Sx.refl _ _, ?_⟩⟩
        show _ = some (HO.ins _ dx (drFs d { r with value := none }))
        rw [stay hv0]
        exact hx
      | skip =>
        obtain ⟨b, xs, rfl, hb, h4⟩ := Da.tup.mp h2
        obtain ⟨v1, r1, rfl, e1, h5⟩ := DaL.cons.mp h4
        obtain rfl := Da.str.mp e1
        refine ⟨_, rfl, a, _, dy, _, _, rfl, h1, T.c_Step, T.n_Step_deed, stepFs_deed, b, _, _, _, rfl, rfl, SqT.of hb, at0 _ _, rfl, _, rfl, if_f (sne "skip" "give") ⟨rfl, Sx.refl _ _, ?_⟩⟩
        show _ = some (HO.ins _ dx (drFs d { r with value := none }))
        rw [stay hv0]
        exact hx
      | test pr bb =>
        obtain ⟨b, xs, rfl, hb, h4⟩ := Da.tup.mp h2
        obtain ⟨v1, r1, rfl, e1, h5⟩ := DaL.cons.mp h4
        obtain rfl := Da.str.mp e1
        refine ⟨_, rfl, a, _, dy, _, _, rfl, h1, T.c_Step, T.n_Step_deed, stepFs_deed, b, _, _, _, rfl, rfl, SqT.of hb, at0 _ _, rfl, _, rfl, if_f (sne "test" "give") ⟨rfl, Sx.refl _ _, ?_⟩⟩
        show _ = some (HO.ins _ dx (drFs d { r with value := none }))
        rw [stay hv0]
        exact hx
    · rintro σ' H1 ⟨rfl, s1, hx1⟩
      have hh1 := s1 _ _ (fun e => xd e.symm) hh
      have two1 : Sx (fun b => b = x ∨ b = d) H H1 := fun b o n q => s1 b o (fun e => n (.inl e)) q
      have hS1 := stepAt_two ne hx hh two1 hS
      refine ⟨_, rfl, _, rfl, x, _, dx, _, _, rfl, hx1, T.c_Drive, T.n_Drive_held, drFs_held, a, d, z, r.held, rfl, hS1, hok, hh1, hlen, fun H2 s2 hd2 => ?_⟩
      have hx2 := s2 _ _ xd hx1
      have two2 : Sx (fun b => b = x ∨ b = d) H H2 := two1.trans fun b o n q => s2 b o (fun e => n (.inr e)) q
      refine ⟨_, rfl, x, _, dx, _, _, rfl, hx2, T.c_Drive, T.n_Drive_turns, drFs_turns, _, _, rfl, rfl, dx, _, hx2, drFs_few, ?_⟩
      rw [put_turns]
      have two3 := two2.at (p := x) (o := .ins (He.ga K "Drive") dx (drFs d { r with value := z.deed.gives r.held, turns := r.turns + 1 })) (.inl rfl)
      have hS3 := stepAt_two ne hx hh two3 hS
      refine ⟨_, rfl, x, _, dx, _, _, rfl, upd_same, T.c_Drive, T.n_Drive_pieces, drFs_pieces, _, rfl, a, z, rfl, hS3, hok.m, fun H4 s4 => ⟨_, _, rfl, rfl, dx, _, s4 _ _ upd_same, drFs_few, ?_⟩⟩
      rw [put_pieces]
      have two4 := (two3.trans (Sx.ofSame s4)).at (p := x) (o := .ins (He.ga K "Drive") dx (drFs d { r with value := z.deed.gives r.held, turns := r.turns + 1, pieces := r.pieces + z.count })) (.inl rfl)
      obtain ⟨dy, dv, mv, h1, h2, h3⟩ := stepAt_two ne hx hh two4 hS
      refine ⟨_, rfl, a, _, dy, _, _, rfl, h1, T.c_Step, T.n_Step_end, stepFs_end, _, rfl, x, _, dx, _, rfl, upd_same, T.c_Drive, T.n_Drive_point, drFs_few, ?_⟩
      rw [put_point]
      refine k _ (two4.at (.inl rfl)) upd_same ?_
      have dx' : d ≠ x := fun e => xd e.symm
      rw [upd_ne dx', upd_ne dx']
      exact s4 _ _ (by rw [upd_ne dx']; exact hd2)
end
end K48

namespace K48
open PySem PySem.Spec PyProof.Rows L2
/-! ### [x for x in xs if p], the answers told ahead -/
def pick {α : Type} : List α → List Bool → List α
  | x :: xs, b :: bs => if b = true then x :: pick xs bs else pick xs bs
  | _, _ => []
theorem pick_len {α : Type} : ∀ (xs : List α) (bs : List Bool), (pick xs bs).length ≤ xs.length
  | [], [] => Nat.le_refl _
  | [], _ :: _ => Nat.le_refl _
  | _ :: _, [] => Nat.zero_le _
  | x :: xs, b :: bs => by
    have := pick_len xs bs
    unfold pick
    split <;> simp <;> omega
theorem pick_take {α : Type} : ∀ (xs : List α) (bs : List Bool) (i : Nat) (x : α) (b : Bool), xs[i]? = some x → bs[i]? = some b → pick (xs.take (i + 1)) (bs.take (i + 1)) = pick (xs.take i) (bs.take i) ++ (if b = true then [x] else [])
  | [], _, i, x, b, h, _ => by simp at h
  | _ :: _, [], i, x, b, _, h => by simp at h
  | y :: xs, c :: bs, 0, x, b, h1, h2 => by
    simp at h1 h2
    subst h1 h2
    simp [pick]
  | y :: xs, c :: bs, i + 1, x, b, h1, h2 => by
    simp at h1 h2
    have ih := pick_take xs bs i x b h1 h2
    rw [List.take_succ_cons, List.take_succ_cons, List.take_succ_cons, List.take_succ_cons]
    show (if c = true then y :: pick (xs.take (i + 1)) (bs.take (i + 1)) else pick (xs.take (i + 1)) (bs.take (i + 1))) = (if c = true then y :: pick (xs.take i) (bs.take i) else pick (xs.take i) (bs.take i)) ++ _
    rw [ih]
    split <;> rfl
section
variable {K : PySem.W.Frag} {a D : Addr} {xs : List V} {bs : List Bool} {j : Nat} {σ : L2.St} {H1 : Hp} {tt : TT} {Qd : Hp → Prop}
theorem lc_pickT (hx : SqT K H1 a xs) (hl : bs.length = xs.length) (hD : H1 D = none) (hlen : xs.length ≤ 1000) (hj : j < σ.length)
    (hs : ∀ (i : Nat) x b H, xs[i]? = some x → bs[i]? = some b → Same H1 H → ∀ Q : Bool → Hp → Prop, (∀ H4, Same H H4 → Q b H4) → tt ((wipe σ [j]).set j (some x)) H Q)
    (hd : ∀ H, Same H1 H → H D = some (.lst (pick xs bs)) → Qd H) :
    ∃ W : Nat → Nat → Hp → Prop, (∃ m, W 0 m (upd H1 D (.lst []))) ∧ ∀ i m H, W i m H →
      ((Itt K a).stop i H ∧ Qd H) ∨ ((Itt K a).go i H ∧ ∃ Nx : Hp → Prop, (∀ H', Nx H' → ∃ m', m' < m ∧ W (i + 1) m' H') ∧ ∀ x H', (Itt K a).yld i H x H' → gName j x (wipe σ [j]) H' fun σ2 H2 => wipe σ2 [j] = wipe σ [j] ∧ tt σ2 H2 fun b H3 =>
        if b = true then tVar j σ2 H3 fun y H4 => ∃ acc, H4 D = some (.lst acc) ∧ acc.length < sizeLine ∧ Nx (upd H4 D (.lst (acc ++ [y]))) else Nx H3) := by
  refine lc_tup (K := K) (a := a) (xs := xs) (fun i H => Same H1 H ∧ H D = some (.lst (pick (xs.take i) (bs.take i)))) ⟨same_new hD, upd_same⟩ (fun i H _ p => sqT_sx (M := fun _ => False) hx (fun z => z) (Sx.ofSame p.1)) (fun i x H hi q => ⟨wipe_back, ?_⟩) fun H q => ?_
  · obtain ⟨s1, hd1⟩ := q
    have hil := (List.getElem?_eq_some_iff.mp hi).1
    have hb : bs[i]? = some (bs[i]'(by omega)) := List.getElem?_eq_getElem (by omega)
    have e := pick_take xs bs i x _ hi hb
    have lf := pick_len (xs.take i) (bs.take i)
    rw [List.length_take] at lf
    refine hs i x _ H hi hb s1 _ fun H4 s4 => ?_
    have s5 := s1.trans s4
    refine if_b (fun c => ?_) fun c => ?_
    · refine ⟨x, ?_, _, s4 _ _ hd1, by rw [sizeLine_eq]; omega, same_upd s5 hD, ?_⟩
      · show ((σ.set j Option.none).set j (some x))[j]? = some (some x)
        exact List.getElem?_set_self (by rw [List.length_set]; exact hj)
      · rw [e, upd_same, if_pos c]
    · refine ⟨s5, ?_⟩
      rw [e, s4 _ _ hd1, if_neg (by rw [c]; decide), List.append_nil]
  · obtain ⟨s1, hd1⟩ := q
    rw [List.take_length, ← hl, List.take_length] at hd1
    exact hd H s1 hd1
end
theorem pick_none {pt : Int} {h : Held} : ∀ (as : List Addr) (ss : List Sp1), as.length = ss.length → ready ss pt h = none → pick (as.map V.ref) (ss.map (readyB pt h)) = []
  | [], [], _, _ => rfl
  | a :: as, s :: ss, hl, hr => by
    unfold ready at hr
    rw [List.find?_cons] at hr
    cases q : readyB pt h s with
    | true =>
      rw [q] at hr
      cases hr
    | false =>
      rw [q] at hr
      rw [List.map_cons, List.map_cons, q]
      exact pick_none as ss (by simpa using hl) hr
  | [], _ :: _, hl, _ => by simp at hl
  | _ :: _, [], hl, _ => by simp at hl
theorem pick_some {pt : Int} {h : Held} : ∀ (as : List Addr) (ss : List Sp1) (s : Sp1), as.length = ss.length → ready ss pt h = some s → ∃ (i : Nat) (a : Addr) (r : List V), as[i]? = some a ∧ ss[i]? = some s ∧ pick (as.map V.ref) (ss.map (readyB pt h)) = .ref a :: r
  | [], [], _, _, hr => by cases hr
  | a :: as, t :: ss, s, hl, hr => by
    unfold ready at hr
    rw [List.find?_cons] at hr
    cases q : readyB pt h t with
    | true =>
      rw [q] at hr
      cases hr
      refine ⟨0, a, pick (as.map V.ref) (ss.map (readyB pt h)), rfl, rfl, ?_⟩
      rw [List.map_cons, List.map_cons, q]
      rfl
    | false =>
      rw [q] at hr
      obtain ⟨i, b, r, h1, h2, h3⟩ := pick_some as ss s (by simpa using hl) hr
      refine ⟨i + 1, b, r, by simpa using h1, by simpa using h2, ?_⟩
      rw [List.map_cons, List.map_cons, q]
      exact h3
  | [], _ :: _, _, hl, _ => by simp at hl
  | _ :: _, [], _, hl, _ => by simp at hl
theorem behind_len (s : Sp1) (h : Held) (hm : s.moves.length ≤ 100) : (behind s h).length ≤ h.length + 101 := by
  have h1 := putAll_len (reads h s.moves ++ s.deed.sets h) h
  have h2 : (s.deed.sets h).length ≤ 1 := by
    cases s.deed with
    | set t v => cases t <;> simp [Deed.sets]
    | _ => simp [Deed.sets]
  rw [List.length_append] at h1
  unfold reads at h1
  rw [List.length_map] at h1
  unfold behind reads
  omega
theorem drive_val {ss : List Sp1} {n : Nat} {r : Run} (h : r.value ≠ none) : drive ss n r = r := by
  cases n with
  | zero => rfl
  | succ n =>
    unfold drive
    cases q : r.value with
    | none => exact absurd q h
    | some i => rfl
theorem drive_stop {ss : List Sp1} {n : Nat} {r : Run} (h : ready ss r.point r.held = none) : drive ss n r = r := by
  cases n with
  | zero => rfl
  | succ n =>
    unfold drive
    rw [h]
    cases r.value <;> rfl
theorem drive_step {ss : List Sp1} {n : Nat} {r : Run} {s : Sp1} (hv : r.value = none) (h : ready ss r.point r.held = some s) : drive ss (n + 1) r = drive ss n (r.next s) := by
  rw [drive, hv, h]
def run0 (h : Held) : Run := ⟨0, h, 0, 0, none⟩
theorem begNot {d : PyData} {ds : List PyData} {h : Held} (r1 : rowD d = some ds) (r2 : heldAll ds = some h) (n : (h.map (·.1)).Nodup) (b : BegBad d) : False := by
  rcases b with b | ⟨ds', b1, b2⟩
  · rw [b] at r1
    cases r1
  · rw [b1] at r1
    cases r1
    rcases b2 with b2 | ⟨h', b2, b3⟩
    · rw [b2] at r2
      cases r2
    · rw [b2] at r2
      cases r2
      exact b3 n
theorem begOk_one {d : PyData} {h h' : Held} (a : BegOk d h) (b : BegOk d h') : h = h' := by
  obtain ⟨⟨ds, r1, r2⟩, _⟩ := a
  obtain ⟨⟨ds', q1, q2⟩, _⟩ := b
  rw [q1] at r1
  cases r1
  rw [q2] at r2
  exact (Option.some.inj r2).symm
section
variable {P : Program} {w : World} {K : PySem.W.Frag} {mg : Str → Option Value} {base : Heap}
def spDrive (CB CN CD C CS : Addr) : Sp := fun vs H Q E => ∃ (x dx c : Addr) (bg tn : V) (d td : PyData) (as : List Addr) (ss : List Sp1), vs = [.ref x, .ref c, bg, tn] ∧ H x = some (.ins CD dx []) ∧ CodeS C CS H c as ss ∧ (∀ a ∈ as, a ≠ x) ∧ c ≠ x ∧ StepsOk ss ∧ Da H d bg ∧ short d ∧ Da H td tn ∧
  ((∃ (h : Held) (n : Nat), BegOk d h ∧ td = .int n ∧ n ≤ 100 ∧ ∀ H' D, Sx (· = x) H H' → H D = none → H' x = some (.ins CD dx (drFs D (drive ss n (run0 h)))) → H' D = some (.dK (hv (drive ss n (run0 h)).held)) → Q .non H') ∨
    (BegBad d ∧ ∀ H' dd, Sx (· = x) H H' → H' dd = some (.xd [("value", bg)]) → E (.ref CB) (some dd) H') ∨
    ((∃ h, BegOk d h) ∧ from0 tn = false ∧ ∀ H' dd, Sx (· = x) H H' → H' dd = some (.xd [("value", tn), ("what", .str "turns")]) → E (.ref CN) (some dd) H'))
abbrev nDI : List Str := ["self", "code", "begin", "turns", "ready", "step"]
theorem sc_Drive : FnScope nDI ["self", "code", "begin", "turns"] (defScope s_DriveD_initD) := ⟨rfl, rfl, rfl, by decide +kernel, rfl, by decide +kernel, by decide +kernel⟩
theorem ma_Drive (T : Tx K mg) : Ma P w K mg base (L2.CX P w) 6 "Drive" (He.ga K "Drive") (spDrive (cBR K) (cBN K) (He.ga K "Drive") (He.ga K "Code") (He.ga K "Step")) := by
  obtain ⟨fd, F⟩ := T.f_DriveD_initD
  refine ⟨_, fd, ["self", "code", "begin", "turns"], T.k_Drive, F.ok sc_Drive (fun vs H Q E h => ?_) (fun cdv A outer s H vs Q E hr h => ?_), T.m_Drive, F.bindsN (fun _ _ _ _ _ _ us hl => match us, hl with | [_, _, _, _], _ => rfl)⟩
  · obtain ⟨x, dx, c, bg, tn, d, td, as, ss, rfl, _⟩ := h
    rfl
  · obtain ⟨x, dx, c, bg, tn, d, td, as, ss, rfl, hx, ⟨dc, t, hc, ht, las, hst⟩, hax, hcx, hok, hd, hsh, htd, k⟩ := h
    have c1 := ca_held_first (P := P) (w := w) (base := base) T
    have c2 := ca_check_from_0 (P := P) (w := w) (base := base) T
    have c3 := ca_is_gone (P := P) (w := w) (base := base) T
    have c4 := me_advance (P := P) (w := w) (base := base) T
    obtain ⟨f5, fd5, ps5, C5, M5, F5, B5⟩ := c4.ex
    obtain ⟨t0, hB⟩ := T.m_BEGIN
    have las2 := hok.l
    refine ⟨_, pss_cons (ps_fld (pv 0) (pe_caE E c1 hr (takes_of rfl rfl rfl rfl) (pa_cons (pv 2) pa_nil)) rfl)
      (pss_cons (ps_expr (pe_caE E c2 hr (takes_of rfl rfl rfl rfl) (pa_cons pe_str (pa_cons (pv 3) pa_nil))))
      (pss_cons (ps_fld (pv 0) (pe_glob (v := .int 0) (by rfl) hB ⟨t0, rfl⟩) rfl) (pss_cons (ps_fld (pv 0) pe_int rfl) (pss_cons (ps_fld (pv 0) pe_int rfl) (pss_cons (ps_fld (pv 0) pe_non rfl)
      (pss_one (ps_while (passes_of rfl) (PW.pt (pw_and (pt_cmpR op_lt (pe_fld (pv 0) rfl) (pv 3) (nomark _)) (pw_and1 (pt_cmpR op_isN (pe_fld (pv 0) rfl) pe_non (nomark _)))))
        (pss_cons (ps_setLc (i := 4) (own := [("step", 5)]) (g := gName 5) (te := tVar 5) (tt := tAnd (tTest (tOp rEq (tFld K (tVar 5) "start") (tFld K (tVar 0) "point"))) (tB (tCall (spIsGone (He.ga K "Step")) [] E0 (tCons (tVar 5) (tCons (tFld K (tVar 0) "held") tNil))))) rfl sc_Drive.nd rfl rfl (sw_true rfl rfl rfl (by decide +kernel)) (pi_tup (pe_fld (pv 1) rfl)) (blkOk_by (N := nDI) (sc := defScope s_DriveD_initD) (by decide +kernel))
            (fun _ _ _ _ _ => pg_name (i := 5) sc_Drive.nd rfl (Or.inl rfl)) (fun _ _ _ _ _ => pts_one (PW.pt (pw_and (pt_cmpR op_eq (pe_fld (pv 5) rfl) (pe_fld (pv 0) rfl) (nomark _)) (pw_and1 (pt_val (pe_ca c3 hr (pa_cons (pv 5) (pa_cons (pe_fld (pv 0) rfl) pa_nil)))))))) (fun _ _ _ _ _ => pv 5))
        (pss_cons (ps_if (pt_cmpR op_eq (pe_callB call_len_seq (by rfl) T.z_len PySem.boot_len (pa_cons (pv 4) pa_nil)) pe_int (nomark _)) (pss_one ps_break) pss_nil)
        (pss_one (ps_expr (pe_meth (E := E0) (pv 0) C5 M5 F5 hr B5 .nil pass0 (pa_cons (pe_ix ix_list (pv 4) pe_int (fun _ _ => rfl)) pa_nil))))))))))))), ?_⟩
    have xs1 : ∀ {H' : Hp}, Same H H' → H' x = some (.ins (He.ga K "Drive") dx []) := fun e => e _ _ hx
    refine ⟨_, rfl, bg, d, rfl, hd, hsh, ?_⟩
    have bad : BegBad d → (∀ H' dd, Same H H' → H' dd = some (.xd [("value", bg)]) → E (.ref (cBR K)) (some dd) H') := fun b H' dd s1 h1 => by
      rcases k with ⟨h, n, ⟨⟨ds, r1, r2⟩, nn⟩, _⟩ | ⟨_, k⟩ | ⟨⟨h, ⟨ds, r1, r2⟩, nn⟩, _⟩
      · exact (begNot r1 r2 nn b).elim
      · exact k H' dd (Sx.ofSame s1) h1
      · exact (begNot r1 r2 nn b).elim
    by_cases bb : BegBad d
    · exact .inr ⟨bb, bad bb⟩
    · have ok2 : ∃ h, BegOk d h := by
        rcases k with ⟨h, n, b, _⟩ | ⟨b, _⟩ | ⟨b, _⟩
        · exact ⟨h, b⟩
        · exact absurd b bb
        · exact b
      obtain ⟨h, b⟩ := ok2
      refine .inl ⟨h, b, fun H1 D s1 nD hD => ?_⟩
      have xD : x ≠ D := ne_of_none hx nD
      refine ⟨_, rfl, x, _, dx, _, rfl, xs1 s1, T.c_Drive, T.n_Drive_held, (by decide), ?_⟩
      have e1 : Sx (· = x) H (upd H1 x (.ins (He.ga K "Drive") dx (putF "held" (.ref D) []))) := (Sx.ofSame s1).at rfl
      refine ⟨_, rfl, .str "turns", tn, kindOf td, rfl, (htd.kp (kp_ins hx e1)).kd, ?_⟩
      cases hf : from0 tn with
      | false =>
        refine .inr ⟨rfl, fun dd nd => ?_⟩
        rcases k with ⟨h', n, _, rfl, _⟩ | ⟨b', _⟩ | ⟨_, _, k⟩
        · rw [Da.int.mp htd] at hf
          exact absurd (show decide ((0 : Int) ≤ (n : Int)) = false from hf) (by rw [decide_eq_true (by omega)]; decide)
        · exact absurd b' bb
        · exact k _ dd (e1.trans (Sx.ofSame (same_new nd))) upd_same
      | true =>
        refine .inl ⟨rfl, ?_⟩
        have hD1 : ∀ {fs : List (Str × V)} {H2 : Hp}, H2 D = some (.dK (hv h)) → (upd H2 x (.ins (He.ga K "Drive") dx fs)) D = some (.dK (hv h)) := fun q => by
          rw [upd_ne (Ne.symm xD)]
          exact q
        refine ⟨_, rfl, x, _, dx, _, rfl, upd_same, T.c_Drive, T.n_Drive_point, few1, ?_⟩
        refine ⟨_, rfl, x, _, dx, _, rfl, upd_same, T.c_Drive, T.n_Drive_turns, few2, ?_⟩
        refine ⟨_, rfl, x, _, dx, _, rfl, upd_same, T.c_Drive, T.n_Drive_pieces, few3, ?_⟩
        refine ⟨_, rfl, x, _, dx, _, rfl, upd_same, T.c_Drive, T.n_Drive_result, few4, ?_⟩
        rw [put_first (h := h)]
        obtain ⟨n, rfl, hn, kg⟩ : ∃ n : Nat, td = .int n ∧ n ≤ 100 ∧ ∀ H' D, Sx (· = x) H H' → H D = none → H' x = some (.ins (He.ga K "Drive") dx (drFs D (drive ss n (run0 h)))) → H' D = some (.dK (hv (drive ss n (run0 h)).held)) → Q .non H' := by
          rcases k with ⟨h', n, b', e, hn, k⟩ | ⟨b', _⟩ | ⟨_, q, _⟩
          · rw [begOk_one b b']
            exact ⟨n, e, hn, k⟩
          · exact absurd b' bb
          · rw [q] at hf
            cases hf
        obtain rfl := Da.int.mp htd
        have lh : h.length ≤ 1000 := by
          obtain ⟨⟨ds, r1, r2⟩, _⟩ := b
          rw [heldAll_len r2]
          exact hsh ds r1
        have sx0 : ∀ {fs : List (Str × V)} {H2 : Hp}, Sx (· = x) H H2 → Sx (· = x) H (upd H2 x (.ins (He.ga K "Drive") dx fs)) := fun e => e.at rfl
        refine ⟨fun m σ H2 => ∃ (r : Run) (v4 : Option V), σ = [some (.ref x), some (.ref c), some bg, some (.int n), v4, none] ∧ r.turns + m = n ∧ drive ss m r = drive ss n (run0 h) ∧ Sx (· = x) H H2 ∧ H2 x = some (.ins (He.ga K "Drive") dx (drFs D r)) ∧ H2 D = some (.dK (hv r.held)) ∧ r.held.length + 101 * m ≤ h.length + 101 * n,
          ⟨n, run0 h, none, rfl, by show (0 : Int) + n = n; omega, rfl, sx0 (sx0 (sx0 (sx0 e1))), upd_same, hD1 (hD1 (hD1 (hD1 (hD1 hD)))), Nat.le_refl _⟩, ?_⟩
        rintro m σ H2 ⟨r, v4, rfl, htm, hdr, s2, hx2, hD2, hl2⟩
        have nD2 : ∀ {b : Addr} {o : HO}, b ≠ x → H b = some o → H2 b = some o := fun n q => s2 _ _ n q
        refine ⟨_, rfl, x, _, dx, _, _, rfl, hx2, T.c_Drive, T.n_Drive_turns, drFs_turns, _, rfl, _, _, rfl, rfl, _, rfl, ?_⟩
        refine if_b (fun cm => ?_) fun cm => ?_
        · have cm' : r.turns < (n : Int) := of_decide_eq_true cm
          refine ⟨_, rfl, x, _, dx, _, _, rfl, hx2, T.c_Drive, T.n_Drive_result, drFs_result, rfl, _, rfl, ?_⟩
          cases hval : r.value with
          | some i =>
            refine if_f rfl ?_
            have hfin : drive ss n (run0 h) = r := by
              rw [← hdr]
              exact drive_val (by rw [hval]; intro q; cases q)
            exact kg H2 D s2 nD (by rw [hfin]; exact hx2) (by rw [hfin]; exact hD2)
          | none =>
            refine if_t rfl ?_
            cases m with
            | zero => exact absurd cm' (by omega)
            | succ m =>
              have hh2 := hD2
              have hc2 := s2 _ _ hcx hc
              have ht2 : H2 t = some (.tup (as.map V.ref)) := s2 _ _ (ne_of ht hx (by intro q; cases q)) ht
              have hst2 : ∀ (i : Nat) a s, as[i]? = some a → ss[i]? = some s → StepAt (He.ga K "Step") H2 a s := fun i a s h1 h2 =>
                StepAt.same s2 (kp_ins hx s2) (hax a (List.mem_of_getElem? h1)) (hst i a s h1 h2)
              refine ⟨_, fun σ' H' q => ⟨m, Nat.lt_succ_self m, q⟩, ?_⟩
              refine ⟨_, rfl, c, _, dc, _, _, rfl, hc2, T.c_Code, T.n_Code_steps, codeFs_steps, t, rfl, ⟨_, SqT.of ht2⟩, fun D2 nD2' => ?_⟩
              refine lc_pickT (K := K) (a := t) (xs := as.map V.ref) (bs := ss.map (readyB r.point r.held)) (SqT.of ht2) (by rw [List.length_map, List.length_map, las]) nD2' (by rw [List.length_map]; omega) (by show 5 < 6; omega) ?_ ?_
              · intro i y bv H3 hi hb s3 Q3 k3
                rw [List.getElem?_map] at hi hb
                cases qa : as[i]? with
                | none =>
                  rw [qa] at hi
                  cases hi
                | some a =>
                  rw [qa] at hi
                  cases hi
                  cases qs : ss[i]? with
                  | none =>
                    rw [qs] at hb
                    cases hb
                  | some z =>
                    rw [qs] at hb
                    cases hb
                    obtain ⟨dy, dv, mv, h1, h2, h3⟩ := stepAt_same s3 (hst2 i a z qa qs)
                    have hx3 := s3 _ _ hx2
                    refine ⟨_, rfl, a, _, dy, _, _, rfl, h1, T.c_Step, T.n_Step_start, stepFs_start, _, rfl, x, _, dx, _, _, rfl, hx3, T.c_Drive, T.n_Drive_point, drFs_point, rfl, _, rfl, ?_⟩
                    have ei : decide (V.int z.start = V.int r.point) = decide (z.start = r.point) := by
                      by_cases e : z.start = r.point
                      · rw [e, decide_eq_true rfl, decide_eq_true rfl]
                      · rw [decide_eq_false e, decide_eq_false fun q => e (V.int.inj q)]
                    rw [ei]
                    unfold readyB at k3
                    refine if_b (fun cs => ?_) fun cs => ?_
                    · refine ⟨_, rfl, _, rfl, x, _, dx, _, _, rfl, hx3, T.c_Drive, T.n_Drive_held, drFs_held, a, D, z, r.held, rfl, ⟨dy, dv, mv, h1, h2, h3⟩, s3 _ _ hD2, fun H4 s4 => ⟨_, rfl, ?_⟩⟩
                      have := k3 H4 s4
                      rw [cs] at this
                      exact this
                    · have := k3 H3 (Same.refl _)
                      rw [cs] at this
                      exact this
              · intro H3 s3 hD3
                have hx3 := s3 _ _ hx2
                cases hr2 : ready ss r.point r.held with
                | none =>
                  rw [pick_none as ss las hr2] at hD3
                  refine ⟨_, rfl, D2, _, rfl, .inl (SqL.of hD3), rfl, _, rfl, if_t (decide_eq_true rfl) ?_⟩
                  have hfin : drive ss n (run0 h) = r := by
                    rw [← hdr]
                    exact drive_stop hr2
                  exact kg H3 D (s2.trans (Sx.ofSame s3)) nD (by rw [hfin]; exact hx3) (by rw [hfin]; exact s3 _ _ hD2)
                | some z =>
                  obtain ⟨i, a, rest, qa, qs, ep⟩ := pick_some as ss z las hr2
                  rw [ep] at hD3
                  refine ⟨_, rfl, D2, _, rfl, .inl (SqL.of hD3), rfl, _, rfl, if_f (decide_eq_false fun q => ?_) ?_⟩
                  · have := V.int.inj q
                    simp at this
                    omega
                  · have hz := hok.m z (List.mem_of_getElem? qs)
                    have hS3 := stepAt_same s3 (hst2 i a z qa qs)
                    refine ⟨_, rfl, x, dx, _, rfl, hx3, drFs_advance, _, rfl, D2, _, _, _, rfl, rfl, SqL.of hD3, at0 _ _, x, a, dx, D, z, r, rfl, hx3, hval, hS3, hz, s3 _ _ hD2, by omega, fun H4 s4 hx4 hD4 => ?_⟩
                    refine ⟨r.next z, _, rfl, ?_, ?_, ?_, hx4, hD4, ?_⟩
                    · show (r.turns + 1) + (m : Int) = n
                      omega
                    · rw [← hdr, drive_step hval hr2]
                    · refine fun b o nb q => s4 b o (fun e => ?_) (s3 b o (s2 b o nb q))
                      rcases e with e | e
                      · exact nb e
                      · rw [e, nD] at q
                        cases q
                    · have := behind_len z r.held hz.m
                      show (behind z r.held).length + 101 * m ≤ _
                      omega
        · have cm' : ¬ r.turns < (n : Int) := of_decide_eq_false cm
          have hm : m = 0 := by omega
          subst hm
          have hfin : drive ss n (run0 h) = r := by
            rw [← hdr]
            rfl
          refine if_f rfl ?_
          exact kg H2 D s2 nD (by rw [hfin]; exact hx2) (by rw [hfin]; exact hD2)
end
end K48

namespace K48
open PySem PySem.Spec PyProof.Rows L2
/-! ### [f(x) for x in xs if p(x)], data made -/
section
variable {K : PySem.W.Frag} {a D : Addr} {xs : List V} {bs : List Bool} {ds : List PyData} {j : Nat} {σ : L2.St} {H1 : Hp} {tt : TT} {te : TE} {Qd : Hp → Prop}
theorem kp_offu {H H' : Hp} {D : Addr} {o : HO} (e : Same H H') : Kp (off H D) (off (upd H' D o) D) := by
  rw [off_upd]
  exact ⟨fun b ys q => by
    by_cases z : b = D
    · rw [z, off_same] at q
      cases q
    · rw [off_ne z] at q ⊢
      exact e _ _ q, fun b ys q => by
    by_cases z : b = D
    · rw [z, off_same] at q
      cases q
    · rw [off_ne z] at q ⊢
      exact e _ _ q⟩
theorem lc_daL (hx : SqL K H1 a xs) (hl : bs.length = xs.length) (hl2 : ds.length = xs.length) (hD : H1 D = none) (hlen : xs.length ≤ 1000)
    (hs : ∀ (i : Nat) x b H, xs[i]? = some x → bs[i]? = some b → Same H1 H → ∀ Q : Bool → Hp → Prop, (∀ H4, Same H H4 → Q b H4) → tt ((wipe σ [j]).set j (some x)) H Q)
    (he : ∀ (i : Nat) x d H, xs[i]? = some x → ds[i]? = some d → bs[i]? = some true → Same H1 H → (∃ acc, H D = some (.lst acc)) → ∀ Q : VK, (∀ y H4, Same H H4 → Da (off H4 D) d y → Q y H4) → te ((wipe σ [j]).set j (some x)) H Q)
    (hd : ∀ H acc, Same H1 H → H D = some (.lst acc) → DaL (off H D) (pick ds bs) acc → Qd H) :
    ∃ W : Nat → Nat → Hp → Prop, (∃ m, W 0 m (upd H1 D (.lst []))) ∧ ∀ i m H, W i m H →
      ((Itl K a).stop i H ∧ Qd H) ∨ ((Itl K a).go i H ∧ ∃ Nx : Hp → Prop, (∀ H', Nx H' → ∃ m', m' < m ∧ W (i + 1) m' H') ∧ ∀ x H', (Itl K a).yld i H x H' → gName j x (wipe σ [j]) H' fun σ2 H2 => wipe σ2 [j] = wipe σ [j] ∧ tt σ2 H2 fun b H3 =>
        if b = true then te σ2 H3 fun y H4 => ∃ acc, H4 D = some (.lst acc) ∧ acc.length < sizeLine ∧ Nx (upd H4 D (.lst (acc ++ [y]))) else Nx H3) := by
  refine lc_list (K := K) (a := a) (xs := xs) (fun i H => Same H1 H ∧ ∃ acc, H D = some (.lst acc) ∧ DaL (off H D) (pick (ds.take i) (bs.take i)) acc) ⟨same_new hD, [], upd_same, DaL.nil.mpr rfl⟩ (fun i H _ p => p.1.seq hx) (fun i x H hi q => ⟨wipe_back, ?_⟩) fun H q => ?_
  · obtain ⟨s1, acc, hd1, hda⟩ := q
    have hil := (List.getElem?_eq_some_iff.mp hi).1
    have hb : bs[i]? = some (bs[i]'(by omega)) := List.getElem?_eq_getElem (by omega)
    have hdi : ds[i]? = some (ds[i]'(by omega)) := List.getElem?_eq_getElem (by omega)
    have e := pick_take ds bs i _ _ hdi hb
    have la := hda.length
    have lf := pick_len (ds.take i) (bs.take i)
    rw [List.length_take] at lf
    refine hs i x _ H hi hb s1 _ fun H4 s4 => ?_
    have s5 := s1.trans s4
    refine if_b (fun c => ?_) fun c => ?_
    · rw [c] at hb
      refine he i x _ H4 hi hdi hb s5 ⟨acc, s4 _ _ hd1⟩ _ fun y H6 s6 hy => ?_
      refine ⟨acc, s6 _ _ (s4 _ _ hd1), by rw [sizeLine_eq]; omega, same_upd (s5.trans s6) hD, acc ++ [y], upd_same, ?_⟩
      rw [e, if_pos c]
      refine DaL.snoc (hda.kp (kp_offu (s4.trans s6))) ?_
      rw [off_upd]
      exact hy
    · refine ⟨s5, acc, s4 _ _ hd1, ?_⟩
      rw [e, if_neg (by rw [c]; decide), List.append_nil]
      have := kp_offu (o := .lst acc) (D := D) s4
      rw [off_upd] at this
      exact hda.kp this
  · obtain ⟨s1, acc, hd1, hda⟩ := q
    rw [← hl2, List.take_length] at hda
    rw [hl2, ← hl, List.take_length] at hda
    exact hd H acc s1 hd1 hda
end
/-! ### what a run tells -/
/-- the places that do not have 0, in the order l -/
def rowOf (l : List Key) (h : Held) : List PyData := pick (l.map fun k => .tuple [kd k, .int (look h k)]) (l.map fun k => !decide (look h k = 0))
def stD (l : List Key) (r : Run) : PyData := .tuple [.int r.point, .tuple (rowOf l r.held)]
theorem look_in {h : Held} {k : Key} (m : k ∈ h.map (·.1)) : look? h k = some (look h k) := by
  unfold look
  cases q : look? h k with
  | some i => rfl
  | none =>
    exfalso
    unfold look? at q
    rw [Option.map_eq_none_iff, List.find?_eq_none] at q
    obtain ⟨p, hp, e⟩ := List.mem_map.mp m
    exact q p hp (decide_eq_true e)
theorem intsK_mem {ks : List Key} {i : Int} (h : i ∈ intsK ks) : Sum.inl i ∈ ks := by
  obtain ⟨k, hk, e⟩ := List.mem_filterMap.mp h
  cases k with
  | inl j =>
    cases e
    exact hk
  | inr s => cases e
theorem strsK_mem {ks : List Key} {s : Str} (h : s ∈ strsK ks) : Sum.inr s ∈ ks := by
  obtain ⟨k, hk, e⟩ := List.mem_filterMap.mp h
  cases k with
  | inl j => cases e
  | inr t =>
    cases e
    exact hk
theorem OrdK.mem {ks l : List Key} (o : OrdK ks l) {k : Key} (h : k ∈ l) : k ∈ ks := by
  obtain ⟨ns, ss, rfl, p1, _, p2, _⟩ := o
  rcases List.mem_append.mp h with h | h
  · obtain ⟨i, hi, rfl⟩ := List.mem_map.mp h
    exact intsK_mem (p1.mem_iff.mp hi)
  · obtain ⟨s, hs, rfl⟩ := List.mem_map.mp h
    exact strsK_mem (p2.mem_iff.mp hs)
theorem OrdK.len {ks l : List Key} (o : OrdK ks l) : l.length ≤ ks.length + ks.length := by
  obtain ⟨ns, ss, rfl, p1, _, p2, _⟩ := o
  have l1 := strsK_len ks
  have l2 := intsK_len ks
  rw [List.length_append, List.length_map, List.length_map, p1.length_eq, p2.length_eq]
  omega
theorem pe_maE {X : Cx} {k j : Nat} {C : Addr} {x : Str} {sp : Sp} {p pos : Pos} {e : Expr} {es : List Expr} {t : TA} (E : XK) (c : Ma X.prog X.w X.K X.mg X.base (L2.CX X.prog X.w) k x C sp) (hr : Room j X.A) (tk : Takes X (fun cls d _ H => E cls d H)) (ha : PA X (e :: es) t) (hk : k + 1 ≤ j := by decide) (hg : Gl X x := by rfl)
    (hdb : (x == ("__debug__" : Str)) = false := by decide) (he : starEach (e :: es) X.env = (false, eval e X.env) :: starEach es X.env := by rfl) (hpl : (backTo pos (starEach es X.env)).any (·.1) = false := by rfl) :
    PE X (.Call (.Name x p) (e :: es) [] pos) (tMake C sp [] E t) := by
  obtain ⟨f, fd, ps, M, F, hm, b⟩ := c.ex
  exact pe_make M F (hr.mono hk) hg hm b .nil (passes_call tk fun _ _ _ _ z => z) ha hdb he hpl
/-- a def that drives: code, begin, turns -/
def spOf (CB CN C CS : Addr) (G : Run → Hp → VK → Prop) : Sp := fun vs H Q E => ∃ (c : Addr) (bg tn : V) (d td : PyData) (as : List Addr) (ss : List Sp1), vs = [.ref c, bg, tn] ∧ CodeS C CS H c as ss ∧ StepsOk ss ∧ Da H d bg ∧ short d ∧ Da H td tn ∧
  ((∃ (h : Held) (n : Nat), BegOk d h ∧ td = .int n ∧ n ≤ 100 ∧ G (drive ss n (run0 h)) H Q) ∨
    (BegBad d ∧ ∀ H' dd, Same H H' → H' dd = some (.xd [("value", bg)]) → E (.ref CB) (some dd) H') ∨
    ((∃ h, BegOk d h) ∧ from0 tn = false ∧ ∀ H' dd, Same H H' → H' dd = some (.xd [("value", tn), ("what", .str "turns")]) → E (.ref CN) (some dd) H'))
/-- the run made -/
theorem made_drive {CB CN CD C CS : Addr} {c : Addr} {bg tn : V} {d td : PyData} {as : List Addr} {ss : List Sp1} {G : Run → Hp → VK → Prop} {H : Hp} {Q : VK} {Q1 : Addr → Hp → Prop} {E : XK} (hc : CodeS C CS H c as ss) (hok : StepsOk ss) (hd : Da H d bg) (hs : short d) (htd : Da H td tn)
    (k : ((∃ (h : Held) (n : Nat), BegOk d h ∧ td = .int n ∧ n ≤ 100 ∧ G (drive ss n (run0 h)) H Q) ∨
    (BegBad d ∧ ∀ H' dd, Same H H' → H' dd = some (.xd [("value", bg)]) → E (.ref CB) (some dd) H') ∨
    ((∃ h, BegOk d h) ∧ from0 tn = false ∧ ∀ H' dd, Same H H' → H' dd = some (.xd [("value", tn), ("what", .str "turns")]) → E (.ref CN) (some dd) H')))
    (g : ∀ (r : Run) H' x D dx, Same H H' → H' x = some (.ins CD dx (drFs D r)) → H' D = some (.dK (hv r.held)) → G r H Q → Q1 x H') :
    ∀ x dx, H x = none → H dx = none → dx ≠ x → spDrive CB CN CD C CS (.ref x :: ([.ref c, bg, tn] ++ [])) (upd (upd H dx (.own x)) x (.ins CD dx [])) (fun v H2 => v = .non ∧ Q1 x H2) E := by
  intro x dx nx ndx ne
  have s0 : Same H (upd (upd H dx (.own x)) x (.ins CD dx [])) := same_upd (same_new ndx) nx
  have back : ∀ {H'}, Sx (· = x) (upd (upd H dx (.own x)) x (.ins CD dx [])) H' → Same H H' := fun e b o q => e b o (fun z => by rw [z, nx] at q; cases q) (s0 b o q)
  refine ⟨x, dx, c, bg, tn, d, td, as, ss, rfl, upd_same, hc.same s0, fun a ha => ?_, ?_, hok, hd.kp (Kp.of s0), hs, htd.kp (Kp.of s0), ?_⟩
  · obtain ⟨dc, t, h1, h2, h3, h4⟩ := hc
    obtain ⟨i, hi⟩ := List.mem_iff_getElem?.mp ha
    have il : i < ss.length := by
      rw [← h3]
      exact (List.getElem?_eq_some_iff.mp hi).1
    obtain ⟨dy, dv, mv, q, _⟩ := h4 i a _ hi (List.getElem?_eq_getElem il)
    exact ne_of_none q nx
  · obtain ⟨dc, t, h1, _⟩ := hc
    exact ne_of_none h1 nx
  · rcases k with ⟨h, n, b, e, hn, kg⟩ | ⟨b, kb⟩ | ⟨b, f, kb⟩
    · exact .inl ⟨h, n, b, e, hn, fun H' D s1 nD h1 h2 => ⟨rfl, g _ H' x D dx (back s1) h1 h2 kg⟩⟩
    · exact .inr (.inl ⟨b, fun H' dd s1 h1 => kb H' dd (back s1) h1⟩)
    · exact .inr (.inr ⟨b, f, fun H' dd s1 h1 => kb H' dd (back s1) h1⟩)
section
variable {P : Program} {w : World} {K : PySem.W.Frag} {mg : Str → Option Value} {base : Heap}
def gPieces : Run → Hp → VK → Prop := fun r H Q => ∀ H', Same H H' → Q (.int r.pieces) H'
def gRun (C : Addr) : Run → Hp → VK → Prop := fun r H Q => (r.value = none → ∀ H', Same H H' → Q .non H') ∧ ∀ i, r.value = some i → ∀ H' a, Same H H' → RanAt C H' a i r.turns r.pieces → Q (.ref a) H'
def gState : Run → Hp → VK → Prop := fun r H Q => r.held.length < 64 ∧ ∀ H' y l, Same H H' → OrdK (r.held.map (·.1)) l → Da H' (stD l r) y → Q y H'
theorem sc_pieces_after : FnScope ["code", "begin", "turns"] ["code", "begin", "turns"] (defScope s_pieces_after) := ⟨rfl, rfl, rfl, by decide +kernel, rfl, by decide +kernel, by decide +kernel⟩
theorem ca_pieces_after (T : Tx K mg) : Ca P w K mg base (L2.CX P w) 8 "pieces_after" (spOf (cBR K) (cBN K) (He.ga K "Code") (He.ga K "Step") gPieces) := by
  refine caX T.f_pieces_after T.m_pieces_after sc_pieces_after (fun _ _ _ _ _ _ us hl => match us, hl with | [_, _, _], _ => rfl) (fun vs H Q E h => ?_) (fun cdv A outer s H vs Q E hr h => ?_)
  · obtain ⟨c, bg, tn, d, td, as, ss, rfl, _⟩ := h
    rfl
  · obtain ⟨c, bg, tn, d, td, as, ss, rfl, hc, hok, hd, hs, htd, k⟩ := h
    have c1 := ma_Drive (P := P) (w := w) (base := base) T
    refine ⟨_, pss_one (ps_ret (pe_fld (pe_maE E c1 hr (takes_of rfl rfl rfl rfl) (pa_cons (pv 0) (pa_cons (pv 1) (pa_cons (pv 2) pa_nil)))) rfl)), ?_⟩
    refine ⟨_, rfl, _, rfl, _, rfl, made_drive hc hok hd hs htd k fun r H' x D dx s1 h1 h2 g => ?_⟩
    exact ⟨x, _, dx, _, _, rfl, h1, T.c_Drive, T.n_Drive_pieces, drFs_pieces, g H' s1⟩
theorem sc_run_code : FnScope ["code", "begin", "turns", "drive"] ["code", "begin", "turns"] (defScope s_run_code) := ⟨rfl, rfl, rfl, by decide +kernel, rfl, by decide +kernel, by decide +kernel⟩
theorem ca_run_code (T : Tx K mg) : Ca P w K mg base (L2.CX P w) 8 "run_code" (spOf (cBR K) (cBN K) (He.ga K "Code") (He.ga K "Step") (gRun (He.ga K "Ran"))) := by
  refine caX T.f_run_code T.m_run_code sc_run_code (fun _ _ _ _ _ _ us hl => match us, hl with | [_, _, _], _ => rfl) (fun vs H Q E h => ?_) (fun cdv A outer s H vs Q E hr h => ?_)
  · obtain ⟨c, bg, tn, d, td, as, ss, rfl, _⟩ := h
    rfl
  · obtain ⟨c, bg, tn, d, td, as, ss, rfl, hc, hok, hd, hs, htd, k⟩ := h
    have c1 := ma_Drive (P := P) (w := w) (base := base) T
    have c2 := ma_Ran (P := P) (w := w) (base := base) T
    refine ⟨_, pss_cons (ps_set (i := 3) sc_run_code.nd rfl (Or.inl rfl) (pe_maE E c1 hr (takes_of rfl rfl rfl rfl) (pa_cons (pv 0) (pa_cons (pv 1) (pa_cons (pv 2) pa_nil)))))
      (pss_one (ps_ret (pe_ifExp (pt_cmpR op_isN (pe_fld (pv 3) rfl) pe_non (nomark _)) pe_non (pe_ma c2 hr (pa_cons (pe_fld (pv 3) rfl) (pa_cons (pe_fld (pv 3) rfl) (pa_cons (pe_fld (pv 3) rfl) pa_nil))))))), ?_⟩
    refine ⟨_, rfl, _, rfl, _, rfl, made_drive hc hok hd hs htd k fun r H' x D dx s1 h1 h2 g => ?_⟩
    refine ⟨_, rfl, x, _, dx, _, _, rfl, h1, T.c_Drive, T.n_Drive_result, drFs_result, rfl, _, rfl, ?_⟩
    cases q : r.value with
    | none => exact if_t rfl (g.1 q H' s1)
    | some i =>
      refine if_f rfl ?_
      refine ⟨_, rfl, x, _, dx, _, _, rfl, h1, T.c_Drive, T.n_Drive_result, drFs_result, _, rfl, x, _, dx, _, _, rfl, h1, T.c_Drive, T.n_Drive_turns, drFs_turns, _, rfl, x, _, dx, _, _, rfl, h1, T.c_Drive, T.n_Drive_pieces, drFs_pieces, fun y dy ny ndy ne => ?_⟩
      rw [q]
      refine ⟨y, dy, i, r.turns, r.pieces, rfl, upd_same, fun H2 s2 h3 => ⟨rfl, g.2 i q H2 y (fun b o z => s2 b o (fun e => ?_) (same_upd (same_new ndy) ny b o (s1 b o z))) ⟨dy, h3⟩⟩⟩
      rw [e] at z
      rw [s1 _ _ z] at ny
      cases ny
theorem sc_state_after : FnScope ["code", "begin", "turns", "drive", "held", "place"] ["code", "begin", "turns"] (defScope s_state_after) := ⟨rfl, rfl, rfl, by decide +kernel, rfl, by decide +kernel, by decide +kernel⟩
abbrev nSA : List Str := ["code", "begin", "turns", "drive", "held", "place"]
theorem ca_state_after (T : Tx K mg) : Ca P w K mg base (L2.CX P w) 8 "state_after" (spOf (cBR K) (cBN K) (He.ga K "Code") (He.ga K "Step") gState) := by
  refine caX T.f_state_after T.m_state_after sc_state_after (fun _ _ _ _ _ _ us hl => match us, hl with | [_, _, _], _ => rfl) (fun vs H Q E h => ?_) (fun cdv A outer s H vs Q E hr h => ?_)
  · obtain ⟨c, bg, tn, d, td, as, ss, rfl, _⟩ := h
    rfl
  · obtain ⟨c, bg, tn, d, td, as, ss, rfl, hc, hok, hd, hs, htd, k⟩ := h
    have c1 := ma_Drive (P := P) (w := w) (base := base) T
    have c2 := ca_in_order (P := P) (w := w) (base := base) T
    refine ⟨_, pss_cons (ps_set (i := 3) sc_state_after.nd rfl (Or.inl rfl) (pe_maE E c1 hr (takes_of rfl rfl rfl rfl) (pa_cons (pv 0) (pa_cons (pv 1) (pa_cons (pv 2) pa_nil)))))
      (pss_cons (ps_set (i := 4) sc_state_after.nd rfl (Or.inr rfl) (pe_fld (pv 3) rfl))
      (pss_one (ps_ret (pe_tup (pa_cons (pe_fld (pv 3) rfl) (pa_cons (pe_callTy call_tuple_of (by rfl) T.z_tuple (by decide +kernel) (pa_cons
        (pe_lc (own := [("place", 5)]) (g := gName 5) (te := tTup (tCons (tVar 5) (tCons (tDGet (tVar 4) (tVar 5)) tNil))) (tt := tTest (tOp rNe (tDGet (tVar 4) (tVar 5)) (tC (.int 0)))) rfl sc_state_after.nd (pi_list (pe_ca c2 hr (pa_cons (pe_callTy (call_list_dK rfl) (by rfl) T.z_list (by decide +kernel) (pa_cons (pv 4) pa_nil)) pa_nil))) (blkOk_by (N := nSA) (sc := defScope s_state_after) (by decide +kernel)) (fun _ _ _ _ _ => pg_name (i := 5) sc_state_after.nd rfl (Or.inl rfl))
          (fun _ _ _ _ _ => pts_one (pt_cmpR op_ne (pe_dget (hu_of hr) (pv 4) (pv 5) (fun _ _ => rfl)) pe_int (nomark _))) (fun _ _ _ _ _ => pe_tup (pa_cons (pv 5) (pa_cons (pe_dget (hu_of hr) (pv 4) (pv 5) (fun _ _ => rfl)) pa_nil)))) pa_nil)) pa_nil)))))), ?_⟩
    refine ⟨_, rfl, _, rfl, _, rfl, made_drive hc hok hd hs htd k fun r H1 x D dx s1 h1 h2 g => ?_⟩
    refine ⟨_, rfl, x, _, dx, _, _, rfl, h1, T.c_Drive, T.n_Drive_held, drFs_held, ?_⟩
    refine ⟨_, rfl, x, _, dx, _, _, rfl, h1, T.c_Drive, T.n_Drive_point, drFs_point, _, rfl, D, _, rfl, h2, fun q nq => ?_⟩
    have s2 : Same H1 (upd H1 q (.lst ((hv r.held).map fun kv => kV kv.1))) := same_new nq
    have ek : ((hv r.held).map fun kv => kV kv.1) = (r.held.map (·.1)).map kV := by
      unfold hv
      rw [List.map_map, List.map_map]
      rfl
    refine ⟨q, r.held.map (·.1), rfl, by rw [← ek]; exact upd_same, by rw [List.length_map]; exact g.1, fun H2 p l s3 ho hp => ?_⟩
    have s4 : Same H H2 := s1.trans (s2.trans s3)
    have hD2 : H2 D = some (.dK (hv r.held)) := s3 _ _ (s2 _ _ h2)
    have ll := ho.len
    rw [List.length_map] at ll
    have lg := g.1
    refine ⟨p, rfl, ⟨_, SqL.of hp⟩, fun D2 nD2 => ?_⟩
    have hget : ∀ (i : Nat) (y : V), (l.map kV)[i]? = some y → ∃ k, l[i]? = some k ∧ y = kV k ∧ valV (hv r.held) k = some (.int (look r.held k)) := fun i y hi => by
      obtain ⟨k, h5, rfl⟩ := key_at hi
      refine ⟨k, h5, rfl, ?_⟩
      rw [valV_hv, look_in (ho.mem (List.mem_of_getElem? h5))]
      rfl
    refine lc_daL (K := K) (a := p) (xs := l.map kV) (bs := l.map fun k => !decide (look r.held k = 0)) (ds := l.map fun k => .tuple [kd k, .int (look r.held k)]) (SqL.of hp) (by rw [List.length_map, List.length_map]) (by rw [List.length_map, List.length_map]) nD2 (by rw [List.length_map]; omega) ?_ ?_ ?_
    · intro i y b H3 hi hb s5 Q2 k2
      obtain ⟨k, h5, rfl, h6⟩ := hget i y hi
      rw [List.getElem?_map, h5] at hb
      cases hb
      refine ⟨_, rfl, _, rfl, D, _, rfl, h6 ▸ DGet.k (s5 _ _ hD2), rfl, _, rfl, ?_⟩
      have ei : decide (V.int (look r.held k) = V.int 0) = decide (look r.held k = 0) := by
        by_cases e : look r.held k = 0
        · rw [e, decide_eq_true rfl, decide_eq_true rfl]
        · rw [decide_eq_false e, decide_eq_false fun q => e (V.int.inj q)]
      rw [ei]
      exact k2 H3 (Same.refl _)
    · intro i y d' H3 hi hd' _ s5 ⟨acc, hacc⟩ Q2 k2
      obtain ⟨k, h5, rfl, h6⟩ := hget i y hi
      rw [List.getElem?_map, h5] at hd'
      cases hd'
      refine ⟨_, rfl, _, rfl, _, rfl, D, _, rfl, h6 ▸ DGet.k (s5 _ _ hD2), (by show 2 ≤ sizeLine; decide), fun t nt => ?_⟩
      refine k2 _ _ (same_new nt) (Da.tup.mpr ⟨t, _, rfl, ?_, DaL.cons.mpr ⟨_, _, rfl, da_key _ k, DaL.cons.mpr ⟨_, _, rfl, Da.int.mpr rfl, DaL.nil.mpr rfl⟩⟩⟩)
      rw [off_ne (ne_of_none hacc nt).symm]
      exact upd_same
    · intro H3 acc s5 hacc hda
      refine ⟨D2, acc, rfl, .inl ⟨SqL.of hacc, fun t nt => ⟨(by show 2 ≤ sizeLine; decide), fun u nu => ?_⟩⟩⟩
      have s6 := same_new (o := .tup acc) nt
      have s7 := same_upd (o := .tup [.int r.point, .ref t]) s6 (s6.free nu)
      refine g.2 _ _ l (s4.trans (s5.trans s7)) ho ?_
      have tu : t ≠ u := fun e => by
        rw [← e, upd_same] at nu
        cases nu
      refine Da.tup.mpr ⟨u, _, rfl, upd_same, DaL.cons.mpr ⟨_, _, rfl, Da.int.mpr rfl, DaL.cons.mpr ⟨_, _, rfl, Da.tup.mpr ⟨t, acc, rfl, by rw [upd_ne tu]; exact upd_same, ?_⟩, DaL.nil.mpr rfl⟩⟩⟩
      exact hda.kp (off_kp.trans (Kp.of s7))
end
end K48

namespace K48
open PySem PySem.Spec PyProof.Rows L2
/-! ### the pen -/
def penK (c : Addr) (at' dg ct fd : Int) : List (Key × V) := [(.inr "cells", .ref c), (.inr "at", .int at'), (.inr "digits", .int dg), (.inr "count", .int ct), (.inr "fold", .int fd)]
theorem penK_cells {c a d n f} : valV (penK c a d n f) (.inr ("cells" : Str)) = some (.ref c) := by
  first | rfl | simp [penK, valV] | decide
theorem penK_at {c a d n f} : valV (penK c a d n f) (.inr ("at" : Str)) = some (.int a) := by
  first | rfl | simp [penK, valV] | decide
theorem penK_digits {c a d n f} : valV (penK c a d n f) (.inr ("digits" : Str)) = some (.int d) := by
  first | rfl | simp [penK, valV] | decide
theorem penK_count {c a d n f} : valV (penK c a d n f) (.inr ("count" : Str)) = some (.int n) := by
  first | rfl | simp [penK, valV] | decide
theorem penK_fold {c a d n f} : valV (penK c a d n f) (.inr ("fold" : Str)) = some (.int f) := by
  first | rfl | simp [penK, valV] | decide
theorem penP_at {c a d n f} (i : Int) : putK (penK c a d n f) (.inr ("at" : Str)) (.int i) = penK c i d n f := by
  first | rfl | simp [penK, putK] | decide
theorem penP_digits {c a d n f} (i : Int) : putK (penK c a d n f) (.inr ("digits" : Str)) (.int i) = penK c a i n f := by
  first | rfl | simp [penK, putK] | decide
theorem penP_count {c a d n f} (i : Int) : putK (penK c a d n f) (.inr ("count" : Str)) (.int i) = penK c a d i f := by
  first | rfl | simp [penK, putK] | decide
theorem penP_fold {c a d n f} (i : Int) : putK (penK c a d n f) (.inr ("fold" : Str)) (.int i) = penK c a d n i := by
  first | rfl | simp [penK, putK] | decide
theorem pen_few {c a d n f} : (penK c a d n f).length < sizeLine := by
  rw [sizeLine_eq]
  show 5 < _
  omega
theorem pen_get {H : Hp} {p : Addr} {kvs : List (Key × V)} {z : Str} {v : V} (h : H p = some (.dK kvs)) (e : valV kvs (.inr z) = some v) : DGet H p (.str z) (some v) := by
  have := DGet.k (k := .inr z) h
  rw [e] at this
  exact this
theorem pen_put {H : Hp} {p : Addr} {c a d n f} {z : Str} {v : V} (h : H p = some (.dK (penK c a d n f))) : DPut H p (.str z) v (upd H p (.dK (putK (penK c a d n f) (.inr z) v))) := DPut.k (k := .inr z) h pen_few
/-- the pen at p, its cells at c, at most n draws made -/
structure PenAt (n : Nat) (H : Hp) (p c : Addr) (ns : List Int) (a d ct f : Int) : Prop where
  p : H p = some (.dK (penK c a d ct f))
  c : H c = some (.lst (ns.map V.int))
  a0 : 0 ≤ a
  a1 : a ≤ ns.length
  d : 0 ≤ d
  c0 : 0 ≤ ct
  c1 : ct ≤ n
  f0 : 0 ≤ f
  f1 : f < 2147483648
def PenOk (n : Nat) (H : Hp) (p c : Addr) (ns : List Int) : Prop := ns.length ≤ 63 ∧ ∃ a d ct f, PenAt n H p c ns a d ct f
theorem PenOk.pc {n : Nat} {H : Hp} {p c : Addr} {ns : List Int} (h : PenOk n H p c ns) : p ≠ c := by
  obtain ⟨_, a, d, ct, f, h⟩ := h
  exact ne_of h.p h.c (by intro q; cases q)
theorem PenOk.pn {n : Nat} {H : Hp} {p c : Addr} {ns : List Int} (h : PenOk n H p c ns) : H p ≠ none := by
  obtain ⟨_, a, d, ct, f, h⟩ := h
  rw [h.p]
  intro q
  cases q
theorem PenOk.cn {n : Nat} {H : Hp} {p c : Addr} {ns : List Int} (h : PenOk n H p c ns) : H c ≠ none := by
  obtain ⟨_, a, d, ct, f, h⟩ := h
  rw [h.c]
  intro q
  cases q
theorem PenOk.same {n : Nat} {H H' : Hp} {p c : Addr} {ns : List Int} (e : Same H H') (h : PenOk n H p c ns) : PenOk n H' p c ns := by
  obtain ⟨l, a, d, ct, f, h⟩ := h
  exact ⟨l, a, d, ct, f, e _ _ h.p, e _ _ h.c, h.a0, h.a1, h.d, h.c0, h.c1, h.f0, h.f1⟩
theorem PenOk.mono {n m : Nat} {H : Hp} {p c : Addr} {ns : List Int} (h : PenOk n H p c ns) (l : n ≤ m) : PenOk m H p c ns := by
  obtain ⟨l', a, d, ct, f, h⟩ := h
  exact ⟨l', a, d, ct, f, h.p, h.c, h.a0, h.a1, h.d, h.c0, by have := h.c1; omega, h.f0, h.f1⟩
theorem PenOk.upd {n : Nat} {H : Hp} {p c q : Addr} {ns : List Int} {o : HO} (h : PenOk n H p c ns) (h1 : p ≠ q) (h2 : c ≠ q) : PenOk n (upd H q o) p c ns := by
  obtain ⟨l, a, d, ct, f, h⟩ := h
  exact ⟨l, a, d, ct, f, by rw [upd_ne h1]; exact h.p, by rw [upd_ne h2]; exact h.c, h.a0, h.a1, h.d, h.c0, h.c1, h.f0, h.f1⟩
theorem PenOk.new {n : Nat} {H : Hp} {p c q : Addr} {ns : List Int} {o : HO} (h : PenOk n H p c ns) (hq : H q = none) : PenOk n (L2.upd H q o) p c ns :=
  h.upd (fun e => h.pn (by rw [e]; exact hq)) (fun e => h.cn (by rw [e]; exact hq))
theorem PenOk.len {n : Nat} {H : Hp} {p c : Addr} {ns : List Int} (h : PenOk n H p c ns) : ns.length ≤ 63 := h.1
theorem PenOk.kp {n : Nat} {H H' : Hp} {p c : Addr} {ns : List Int} (h : PenOk n H p c ns) (e : Sx (· = p) H H') : Kp H H' := e.kp fun b hb => by
  obtain ⟨_, a, d, ct, f, h⟩ := h
  obtain rfl : b = p := hb
  refine ⟨fun xs q => ?_, fun xs q => ?_⟩ <;> (rw [h.p] at q; cases q)
section
variable {P : Program} {w : World} {K : PySem.W.Frag} {mg : Str → Option Value} {base : Heap}
theorem pow_c {j : Int} (h : 0 ≤ j ∧ j ≤ 1000000 := by decide) : CPow 10 j := ⟨h.1, h.2, by decide⟩
theorem pow_17 {i : Int} (h0 : 0 ≤ i) (h : i < 18446744073709551616) : CPow i 17 := ⟨by omega, by omega, by
  show i.natAbs < 18446744073709551616
  omega⟩
def spDraw : Sp := fun vs H Q _ => ∃ (p c : Addr) (ns : List Int) (n : Nat) (m : Int), vs = [.ref p, .int m] ∧ PenOk n H p c ns ∧ n < 1000000 ∧ 0 < m ∧ m ≤ 1000000 ∧
  ∀ H' i, Sx (· = p) H H' → PenOk (n + 1) H' p c ns → 0 ≤ i → i < m → Q (.int i) H'
abbrev nDr : List Str := ["_law_pen_here", "_law_many", "_law_cell", "_law_digit", "_law_mixed_here"]
theorem sc_draw : FnScope nDr ["_law_pen_here", "_law_many"] (defScope s__law_draw) := ⟨rfl, rfl, rfl, by decide +kernel, rfl, by decide +kernel, by decide +kernel⟩
theorem ca_draw (T : Tx K mg) : Ca P w K mg base CX0 1 "_law_draw" spDraw := by
  refine ca0 T.f_q_draw T.m_q_draw sc_draw (fun _ _ _ _ _ _ us hl => match us, hl with | [_, _], _ => rfl) (fun vs H Q E h => ?_) (fun cdv A outer s H vs Q E hr h => ?_)
  · obtain ⟨p, c, ns, n, m, rfl, _⟩ := h
    rfl
  · obtain ⟨p, c, ns, n, m, rfl, ⟨lns, a, d, ct, f, hp⟩, hn, hm0, hm1, k⟩ := h
    have u := hu_of hr
    refine ⟨_, pss_cons (ps_dput u (pv 0) pe_str (pe_op op_add (pe_dget u (pv 0) pe_str (fun _ _ => rfl)) pe_int) rfl)
      (C8.pss_cut (ps_if (PW.pt (pw_and (pt_cmpR op_eq (pe_dget u (pv 0) pe_str (fun _ _ => rfl)) pe_int (nomark _)) (pw_and1 (pt_cmpR op_lt (pe_dget u (pv 0) pe_str (fun _ _ => rfl)) (pe_callB call_len_seq (by rfl) T.z_len PySem.boot_len (pa_cons (pe_dget u (pv 0) pe_str (fun _ _ => rfl)) pa_nil)) (nomark _)))))
          (pss_cons (ps_set (i := 2) sc_draw.nd rfl (Or.inl rfl) (pe_ix ix_list (pe_dget u (pv 0) pe_str (fun _ _ => rfl)) (pe_dget u (pv 0) pe_str (fun _ _ => rfl)) (fun _ _ => rfl)))
          (pss_cons (ps_dput u (pv 0) pe_str (pe_op op_add (pe_dget u (pv 0) pe_str (fun _ _ => rfl)) pe_int) rfl)
          (pss_one (ps_if (pt_cmpR op_ge (pv 2) (pe_op op_pow pe_int pe_int) (nomark _))
            (pss_one (ps_dput u (pv 0) pe_str (pe_op op_sub (pv 2) (pe_op op_pow pe_int pe_int)) rfl))
            (pss_one (ps_dput u (pv 0) pe_str (pe_op op_mod (pe_callTy call_int1 (by rfl) T.z_int (by decide +kernel) (pa_cons (pe_op op_add (pe_op op_mul (pe_dget u (pv 0) pe_str (fun _ _ => rfl)) pe_int) (pv 2)) pa_nil)) pe_int) rfl)))))) pss_nil)
      (pss_cons (ps_if (pt_cmpR op_gt (pe_dget u (pv 0) pe_str (fun _ _ => rfl)) pe_int (nomark _))
          (pss_cons (ps_set (i := 3) sc_draw.nd rfl (Or.inl rfl) (pe_op op_mod (pe_callTy call_int1 (by rfl) T.z_int (by decide +kernel) (pa_cons (pe_dget u (pv 0) pe_str (fun _ _ => rfl)) pa_nil)) (pv 1)))
          (pss_cons (ps_dput u (pv 0) pe_str (pe_op op_fdiv (pe_dget u (pv 0) pe_str (fun _ _ => rfl)) (pv 1)) rfl) (pss_one (ps_ret (pv 3))))) pss_nil)
      (pss_cons (ps_set (i := 4) sc_draw.nd rfl (Or.inl rfl) (pe_op op_add (pe_op op_add (pe_dget u (pv 0) pe_str (fun _ _ => rfl)) (pe_op op_mul (pe_dget u (pv 0) pe_str (fun _ _ => rfl)) pe_int)) pe_int))
      (pss_one (ps_ret (pe_op op_mod (pe_op op_fdiv (pe_callTy call_int1 (by rfl) T.z_int (by decide +kernel) (pa_cons (pe_op op_mod (pe_op op_pow (pv 4) pe_int) pe_int) pa_nil)) pe_int) (pv 1))))))), ?_⟩
    have h0 := hp.p
    refine ⟨_, rfl, p, _, rfl, pen_get h0 penK_count, _, _, rfl, rfl, _, rfl, p, _, rfl, pen_put h0, ?_⟩
    rw [penP_count]
    have s1 : Sx (· = p) H (upd H p (.dK (penK c a d (ct + 1) f))) := (Sx.refl _ _).at rfl
    have pc : p ≠ c := ne_of hp.p hp.c (by intro q; cases q)
    have hp1 : PenAt (n + 1) (upd H p (.dK (penK c a d (ct + 1) f))) p c ns a d (ct + 1) f := ⟨upd_same, by rw [upd_ne (Ne.symm pc)]; exact hp.c, hp.a0, hp.a1, hp.d, by have := hp.c0; omega, by have := hp.c1; omega, hp.f0, hp.f1⟩
    refine ⟨fun σ' H' => (∃ v2, σ' = [some (.ref p), some (.int m), v2, none, none]) ∧ Sx (· = p) H H' ∧ ∃ a' d' f', PenAt (n + 1) H' p c ns a' d' (ct + 1) f', ?_, ?_⟩
    · refine ⟨_, rfl, p, _, rfl, pen_get hp1.p penK_digits, rfl, _, rfl, ?_⟩
      refine if_b (fun q1 => ?_) fun q1 => ?_
      · refine ⟨_, rfl, p, _, rfl, pen_get hp1.p penK_at, _, rfl, p, _, rfl, pen_get hp1.p penK_cells, c, _, rfl, .inl (SqL.of hp1.c), _, _, rfl, rfl, _, rfl, ?_⟩
        refine if_b (fun q2 => ?_) fun q2 => ?_
        · have q3 : a < ((ns.map V.int).length : Nat) := of_decide_eq_true q2
          rw [List.length_map] at q3
          have a0 := hp.a0
          have ia : a.toNat < ns.length := by omega
          have ha : atI (ns.map V.int) a = some (.int ns[a.toNat]) := by
            have e : ((a.toNat : Nat) : Int) = a := by omega
            have q : atI (ns.map V.int) ((a.toNat : Nat) : Int) = some (.int ns[a.toNat]) := atI_nat (by
              rw [List.getElem?_map, List.getElem?_eq_getElem ia]
              rfl)
            rw [e] at q
            exact q
          refine ⟨_, rfl, p, _, rfl, pen_get hp1.p penK_cells, _, rfl, p, _, rfl, pen_get hp1.p penK_at, c, _, _, _, rfl, rfl, SqL.of hp1.c, ha, ?_⟩
          refine ⟨_, rfl, p, _, rfl, pen_get hp1.p penK_at, _, _, rfl, rfl, _, rfl, p, _, rfl, pen_put hp1.p, ?_⟩
          rw [penP_at]
          have s2 := s1.at (p := p) (o := .dK (penK c (a + 1) d (ct + 1) f)) rfl
          have hp2 : PenAt (n + 1) (upd (upd H p (.dK (penK c a d (ct + 1) f))) p (.dK (penK c (a + 1) d (ct + 1) f))) p c ns (a + 1) d (ct + 1) f :=
            ⟨upd_same, by rw [upd_ne (Ne.symm pc)]; exact hp1.c, by omega, by omega, hp1.d, hp1.c0, hp1.c1, hp1.f0, hp1.f1⟩
          refine ⟨_, rfl, _, _, rfl, rfl, pow_c, _, _, rfl, rfl, _, rfl, ?_⟩
          refine if_b (fun q4 => ?_) fun q4 => ?_
          · have q5 : ns[a.toNat] ≥ (10 : Int) ^ ((18 : Int).toNat) := of_decide_eq_true q4
            refine ⟨_, rfl, _, _, rfl, rfl, pow_c, _, _, rfl, rfl, _, rfl, p, _, rfl, pen_put hp2.p, ⟨_, rfl⟩, ?_⟩
            rw [penP_digits]
            refine ⟨s2.at rfl, _, _, _, ⟨upd_same, by rw [upd_ne (Ne.symm pc)]; exact hp2.c, hp2.a0, hp2.a1, by omega, hp2.c0, hp2.c1, hp2.f0, hp2.f1⟩⟩
          · refine ⟨_, rfl, p, _, rfl, pen_get hp2.p penK_fold, _, _, rfl, rfl, .inr (by omega), _, rfl, _, _, rfl, rfl, .inl ⟨_, rfl, _, _, rfl, rfl, (by omega), _, rfl, p, _, rfl, pen_put hp2.p, ⟨_, rfl⟩, ?_⟩⟩
            rw [penP_fold]
            refine ⟨s2.at rfl, _, _, _, ⟨upd_same, by rw [upd_ne (Ne.symm pc)]; exact hp2.c, hp2.a0, hp2.a1, hp2.d, hp2.c0, hp2.c1, Int.emod_nonneg _ (by omega), ?_⟩⟩
            have := Int.emod_lt_of_pos (f * 22695477 + ns[a.toNat]) (show (0 : Int) < 2147483587 by omega)
            omega
        · exact ⟨⟨_, rfl⟩, s1, _, _, _, hp1⟩
      · exact if_f rfl ⟨⟨_, rfl⟩, s1, _, _, _, hp1⟩
    · rintro σ' H' ⟨⟨v2, rfl⟩, s3, a', d', f', hp3⟩
      refine ⟨_, rfl, p, _, rfl, pen_get hp3.p penK_digits, _, _, rfl, rfl, _, rfl, ?_⟩
      refine if_b (fun q1 => ?_) fun q1 => ?_
      · have q2 : d' > 0 := of_decide_eq_true q1
        refine ⟨_, rfl, p, _, rfl, pen_get hp3.p penK_digits, .inl ⟨_, rfl, _, rfl, _, _, rfl, rfl, hm0, ?_⟩⟩
        refine ⟨_, rfl, p, _, rfl, pen_get hp3.p penK_digits, _, rfl, _, _, rfl, rfl, ⟨hm0, by omega⟩, _, rfl, p, _, rfl, pen_put hp3.p, ?_⟩
        rw [penP_digits]
        refine ⟨_, rfl, k _ _ (s3.at rfl) ⟨lns, _, _, _, _, ⟨upd_same, by rw [upd_ne (Ne.symm pc)]; exact hp3.c, hp3.a0, hp3.a1, Int.ediv_nonneg hp3.d (by omega), hp3.c0, hp3.c1, hp3.f0, hp3.f1⟩⟩ (Int.emod_nonneg _ (by omega)) (Int.emod_lt_of_pos _ hm0)⟩
      · refine ⟨_, rfl, p, _, rfl, pen_get hp3.p penK_fold, _, rfl, p, _, rfl, pen_get hp3.p penK_count, _, _, rfl, rfl, .inr (by omega), _, _, rfl, rfl, _, _, rfl, rfl, ?_⟩
        have b1 := hp3.f0
        have b2 := hp3.f1
        have b3 := hp3.c0
        have b4 := hp3.c1
        refine ⟨_, rfl, _, _, rfl, rfl, pow_17 (by omega) (by omega), _, _, rfl, rfl, (by omega), .inl ⟨_, rfl, _, _, rfl, rfl, ⟨by omega, by omega⟩, _, rfl, _, _, rfl, rfl, hm0, ?_⟩⟩
        exact k _ _ s3 ⟨lns, _, _, _, _, hp3⟩ (Int.emod_nonneg _ (by omega)) (Int.emod_lt_of_pos _ hm0)
end
end K48

namespace K48
open PySem PySem.Spec PyProof.Rows L2
theorem sx_new {M : Addr → Prop} {H H' : Hp} {q : Addr} {o : HO} (e : Sx M H H') (h : H' q = none) : Sx M H (upd H' q o) := e.trans (Sx.ofSame (same_new h))
section
variable {P : Program} {w : World} {K : PySem.W.Frag} {mg : Str → Option Value} {base : Heap}
/-! pick -/
def spPick (K : PySem.W.Frag) : Sp := fun vs H Q _ => ∃ (p c a : Addr) (ns : List Int) (n : Nat) (xs : List V), vs = [.ref p, .ref a] ∧ PenOk n H p c ns ∧ n < 1000000 ∧ H a = some (.lst xs) ∧ xs ≠ [] ∧ xs.length ≤ 1000 ∧
  ∀ H' v, Sx (· = p) H H' → PenOk (n + 1) H' p c ns → v ∈ xs → Q v H'
theorem sc_pick : FnScope ["_law_pen_here", "_law_some"] ["_law_pen_here", "_law_some"] (defScope s__law_pick) := ⟨rfl, rfl, rfl, by decide +kernel, rfl, by decide +kernel, by decide +kernel⟩
theorem pen_ne {n : Nat} {H : Hp} {p c a : Addr} {ns : List Int} {o : HO} (h : PenOk n H p c ns) (ha : H a = some o) (hd : ∀ kvs, o ≠ .dK kvs) : a ≠ p := by
  obtain ⟨_, a', d, ct, f, h⟩ := h
  exact ne_of ha h.p (hd _)
theorem ca_pick (T : Tx K mg) : Ca P w K mg base CX0 2 "_law_pick" (spPick K) := by
  refine ca0 T.f_q_pick T.m_q_pick sc_pick (fun _ _ _ _ _ _ us hl => match us, hl with | [_, _], _ => rfl) (fun vs H Q E h => ?_) (fun cdv A outer s H vs Q E hr h => ?_)
  · obtain ⟨p, c, a, ns, n, xs, rfl, _⟩ := h
    rfl
  · obtain ⟨p, c, a, ns, n, xs, rfl, hp, hn, ha, hne, hl, k⟩ := h
    have c1 := ca_draw (P := P) (w := w) (base := base) T
    refine ⟨_, pss_one (ps_ret (pe_ix ix_list (pv 1) (pe_ca c1 hr (pa_cons (pv 0) (pa_cons (pe_callB call_len_seq (by rfl) T.z_len PySem.boot_len (pa_cons (pv 1) pa_nil)) pa_nil))) (fun _ _ => rfl))), ?_⟩
    have l0 : 0 < xs.length := List.length_pos_iff.mpr hne
    refine ⟨_, rfl, _, rfl, _, rfl, a, xs, rfl, .inl (SqL.of ha), p, c, ns, n, _, rfl, hp, hn, by omega, by omega, fun H' i s1 hp1 i0 i1 => ?_⟩
    have il : i.toNat < xs.length := by omega
    have e : ((i.toNat : Nat) : Int) = i := by omega
    have q : atI xs ((i.toNat : Nat) : Int) = some xs[i.toNat] := atI_nat (List.getElem?_eq_getElem il)
    rw [e] at q
    exact ⟨a, xs, i, _, rfl, rfl, SqL.of (s1 _ _ (pen_ne hp ha (fun _ z => by cases z)) ha), q, k _ _ s1 hp1 (List.getElem_mem il)⟩
/-! far -/
theorem pow_mono6 : ∀ {m : Nat}, m ≤ 9 → (1000000 : Int) ^ m ≤ 1000000 ^ 9 := fun {m} h => by
  have : m = 0 ∨ m = 1 ∨ m = 2 ∨ m = 3 ∨ m = 4 ∨ m = 5 ∨ m = 6 ∨ m = 7 ∨ m = 8 ∨ m = 9 := by omega
  rcases this with rfl | rfl | rfl | rfl | rfl | rfl | rfl | rfl | rfl | rfl <;> decide
def spFar : Sp := fun vs H Q _ => ∃ (p c : Addr) (ns : List Int) (n : Nat), vs = [.ref p] ∧ PenOk n H p c ns ∧ n + 12 ≤ 1000000 ∧ ∀ H' i, Sx (· = p) H H' → PenOk (n + 12) H' p c ns → -(10 ^ 60) < i → i < 10 ^ 60 → Q (.int i) H'
abbrev nFar : List Str := ["_law_pen_here", "_law_sign", "_law_many", "_law_far_here", "_law_lap"]
theorem sc_far : FnScope nFar ["_law_pen_here"] (defScope s__law_far) := ⟨rfl, rfl, rfl, by decide +kernel, rfl, by decide +kernel, by decide +kernel⟩
theorem ca_far (T : Tx K mg) : Ca P w K mg base CX0 3 "_law_far" spFar := by
  refine ca0 T.f_q_far T.m_q_far sc_far (fun _ _ _ _ _ _ us hl => match us, hl with | [_], _ => rfl) (fun vs H Q E h => ?_) (fun cdv A outer s H vs Q E hr h => ?_)
  · obtain ⟨p, c, ns, n, rfl, _⟩ := h
    rfl
  · obtain ⟨p, c, ns, n, rfl, hp, hn, k⟩ := h
    have c1 := ca_draw (P := P) (w := w) (base := base) T
    have c2 := ca_pick (P := P) (w := w) (base := base) T
    refine ⟨_, pss_cons (ps_par3 (i := 1) (j := 2) (l := 3) rfl sc_far.nd rfl rfl rfl (by decide) (by decide) (by decide) rfl rfl rfl (pa_cons (pe_op op_sub pe_int (pe_op op_mul pe_int (pe_ca c1 hr (pa_cons (pv 0) (pa_cons pe_int pa_nil)))))
        (pa_cons (pe_ca c2 hr (pa_cons (pv 0) (pa_cons (pe_lst (pa_cons pe_int (pa_cons pe_int (pa_cons pe_int (pa_cons pe_int (pa_cons pe_int pa_nil)))))) pa_nil))) (pa_cons (pe_ca c1 hr (pa_cons (pv 0) (pa_cons pe_int pa_nil))) pa_nil))) (by rfl))
      (pss_cons (ps_for PassesOwn.never rfl (pi_range1 (by rfl) T.z_range (pa_cons (pv 2) pa_nil)) (pg_name (i := 4) sc_far.nd rfl (Or.inl rfl)) (pss_one (ps_set (i := 3) sc_far.nd rfl (Or.inl rfl) (pe_op op_add (pe_op op_mul (pv 3) (pe_op op_pow pe_int pe_int)) (pe_ca c1 hr (pa_cons (pv 0) (pa_cons (pe_op op_pow pe_int pe_int) pa_nil)))))))
      (pss_one (ps_ret (pe_op op_mul (pv 1) (pv 3))))), ?_⟩
    refine ⟨_, rfl, p, c, ns, n, 2, rfl, hp, by omega, by omega, by omega, fun H1 i s1 hp1 i0 i1 => ⟨_, _, rfl, rfl, .inl ⟨by omega, by omega⟩, _, _, rfl, rfl, ?_⟩⟩
    refine ⟨_, rfl, (by rw [sizeLine_eq]; decide), fun D nD => ?_⟩
    have hp2 := hp1.new (o := .lst [.int 0, .int 0, .int 1, .int 3, .int 9]) nD
    refine ⟨p, c, D, ns, n + 1, _, rfl, hp2, by omega, upd_same, by simp, by simp, fun H3 v s3 hp3 hv => ?_⟩
    obtain ⟨m, rfl, hm⟩ : ∃ m : Nat, v = .int m ∧ m ≤ 9 := by
      simp only [List.mem_cons, List.not_mem_nil, or_false] at hv
      rcases hv with rfl | rfl | rfl | rfl | rfl
      · exact ⟨0, rfl, by omega⟩
      · exact ⟨0, rfl, by omega⟩
      · exact ⟨1, rfl, by omega⟩
      · exact ⟨3, rfl, by omega⟩
      · exact ⟨9, rfl, by omega⟩
    have s13 : Sx (· = p) H H3 := (sx_new s1 nD).trans s3
    refine ⟨_, rfl, p, c, ns, n + 2, 40, rfl, hp3, by omega, by omega, by omega, fun H4 j s4 hp4 j0 j1 => ?_⟩
    refine ⟨_, _, _, rfl, ?_⟩
    refine ⟨_, rfl, _, rfl, by omega, by omega, ?_⟩
    have em : ((m : Nat) : Int).toNat = m := Int.toNat_natCast m
    rw [em]
    refine for_range (fun l σ H5 => ∃ (x : Int) (v4 : Option V), σ = [some (.ref p), some (.int (1 - 2 * i)), some (.int m), some (.int x), v4] ∧ Sx (· = p) H H5 ∧ PenOk (n + 3 + l) H5 p c ns ∧ 0 ≤ x ∧ x < 40 * 1000000 ^ l)
      ⟨j, none, rfl, s13.trans s4, hp4, j0, by omega⟩ ?_ ?_
    · rintro l σ H5 hl ⟨x, v4, rfl, s5, hp5, x0, x1⟩
      refine ⟨_, rfl, _, _, rfl, rfl, pow_c, _, _, rfl, rfl, .inr (by decide), _, rfl, _, _, rfl, rfl, pow_c, p, c, ns, n + 3 + l, 10 ^ (6 : Int).toNat, rfl, hp5, by omega, by decide, by decide, fun H6 y s6 hp6 y0 y1 => ?_⟩
      refine ⟨_, _, rfl, rfl, _, _, rfl, s5.trans s6, hp6, ?_, ?_⟩
      · have : (0 : Int) ≤ x * (10 ^ (6 : Int).toNat) := Int.mul_nonneg x0 (by decide)
        omega
      · have e6 : (10 : Int) ^ (6 : Int).toNat = 1000000 := by decide
        rw [e6] at y1 ⊢
        rw [Int.pow_succ]
        omega
    · rintro σ H5 ⟨x, v4, rfl, s5, hp5, x0, x1⟩
      have xb : x < 40 * 1000000 ^ 9 := Int.lt_of_lt_of_le x1 (Int.mul_le_mul_of_nonneg_left (pow_mono6 hm) (by omega))
      have xc : x < 10 ^ 60 := Int.lt_trans xb (by decide)
      refine ⟨_, rfl, _, rfl, _, _, rfl, rfl, .inl ⟨by omega, by omega⟩, k _ _ s5 (hp5.mono (by omega)) ?_ ?_⟩
      · rcases (show i = 0 ∨ i = 1 by omega) with rfl | rfl
        · show -(10 ^ 60) < (1 - 2 * 0) * x
          have : (1 - 2 * 0 : Int) * x = x := by omega
          rw [this]
          exact Int.lt_of_lt_of_le (by decide) x0
        · have : (1 - 2 * 1 : Int) * x = -x := by omega
          rw [this]
          exact Int.neg_lt_neg xc
      · rcases (show i = 0 ∨ i = 1 by omega) with rfl | rfl
        · have : (1 - 2 * 0 : Int) * x = x := by omega
          rw [this]
          exact xc
        · have : (1 - 2 * 1 : Int) * x = -x := by omega
          rw [this]
          exact Int.lt_of_le_of_lt (by omega : -x ≤ 0) (by decide)
end
end K48

namespace K48
open PySem PySem.Spec PyProof.Rows L2
theorem perm_erase {α : Type} : ∀ (l : List α) (k : Nat) (h : k < l.length), (l[k] :: l.eraseIdx k).Perm l
  | [], k, h => by simp at h
  | x :: l, 0, h => by simp
  | x :: l, k + 1, h => by
    have h' : k < l.length := by simpa using h
    have ih := perm_erase l k h'
    show (l[k] :: x :: l.eraseIdx k).Perm (x :: l)
    exact (List.Perm.swap x l[k] _).trans (ih.cons x)
theorem merge_pen {c f} : mergeK [] (penK c 0 0 0 f) = penK c 0 0 0 f := by
  first | rfl | simp [mergeK, penK, putK] | decide
section
variable {P : Program} {w : World} {K : PySem.W.Frag} {mg : Str → Option Value} {base : Heap}
/-! listed -/
/-- a row that is a tuple, or a list that was not there ahead -/
def RowN (H H' : Hp) (b : Addr) (xs : List V) : Prop := H' b = some (.tup xs) ∨ (H' b = some (.lst xs) ∧ H b = none)
theorem RowN.row {H H' : Hp} {b : Addr} {xs : List V} (h : RowN H H' b xs) : RowAt H' b xs := h.elim .inr fun q => .inl q.1
def spListed (K : PySem.W.Frag) : Sp := fun vs H Q _ => ∃ (p c a : Addr) (ns : List Int) (n : Nat) (xs : List V), vs = [.ref p, .ref a] ∧ PenOk n H p c ns ∧ n < 1000000 ∧ RowAt H a xs ∧
  ∀ H' b, Sx (· = p) H H' → PenOk (n + 1) H' p c ns → RowN H H' b xs → Q (.ref b) H'
theorem sc_listed : FnScope ["_law_pen_here", "_law_row"] ["_law_pen_here", "_law_row"] (defScope s__law_listed) := ⟨rfl, rfl, rfl, by decide +kernel, rfl, by decide +kernel, by decide +kernel⟩
theorem ca_listed (T : Tx K mg) : Ca P w K mg base CX0 3 "_law_listed" (spListed K) := by
  refine ca0 T.f_q_listed T.m_q_listed sc_listed (fun _ _ _ _ _ _ us hl => match us, hl with | [_, _], _ => rfl) (fun vs H Q E h => ?_) (fun cdv A outer s H vs Q E hr h => ?_)
  · obtain ⟨p, c, a, ns, n, xs, rfl, _⟩ := h
    rfl
  · obtain ⟨p, c, a, ns, n, xs, rfl, hp, hn, ha, k⟩ := h
    have c1 := ca_pick (P := P) (w := w) (base := base) T
    refine ⟨_, pss_one (ps_ret (pe_ca c1 hr (pa_cons (pv 0) (pa_cons (pe_lst (pa_cons (pe_callTy call_tuple_of (by rfl) T.z_tuple (by decide +kernel) (pa_cons (pv 1) pa_nil)) (pa_cons (pe_callTy call_list_of (by rfl) T.z_list (by decide +kernel) (pa_cons (pv 1) pa_nil)) pa_nil))) pa_nil)))), ?_⟩
    have go : ∀ (H1 : Hp) (t : Addr), Same H H1 → H1 t = some (.tup xs) → ∀ l, H1 l = none → ∀ d, (upd H1 l (.lst xs)) d = none → spPick K [.ref p, .ref d] (upd (upd H1 l (.lst xs)) d (.lst [.ref t, .ref l])) Q E0 := by
      intro H1 t s1 ht l nl d nd
      have s2 := same_upd (o := .lst xs) s1 (s1.free nl)
      have s3 := same_upd (o := .lst [.ref t, .ref l]) s2 (s2.free nd)
      have hl : (upd (upd H1 l (.lst xs)) d (.lst [.ref t, .ref l])) l = some (.lst xs) := by
        rw [upd_ne (ne_of_none upd_same nd)]
        exact upd_same
      have ht3 : (upd (upd H1 l (.lst xs)) d (.lst [.ref t, .ref l])) t = some (.tup xs) := same_new nd _ _ (same_new nl _ _ ht)
      refine ⟨p, c, d, ns, n, _, rfl, hp.same s3, hn, upd_same, by simp, by simp, fun H' v s4 hp4 hv => ?_⟩
      have kp4 := (hp.same s3).kp s4
      have s5 : Sx (· = p) H H' := (Sx.ofSame s3).trans s4
      simp only [List.mem_cons, List.not_mem_nil, or_false] at hv
      rcases hv with rfl | rfl
      · exact k H' t s5 hp4 (.inl (kp4.t _ _ ht3))
      · exact k H' l s5 hp4 (.inr ⟨kp4.l _ _ hl, s1.free nl⟩)
    rcases ha with ha | ha
    · refine ⟨_, rfl, _, rfl, a, xs, rfl, .inl ⟨SqL.of ha, fun t nt => ?_⟩⟩
      have s1 := same_new (o := .tup xs) nt
      exact ⟨_, rfl, a, xs, rfl, .inl (SqL.of (s1 _ _ ha)), fun l nl => ⟨by rw [sizeLine_eq]; show 2 ≤ _; omega, fun d nd => go _ t s1 upd_same l nl d nd⟩⟩
    · refine ⟨_, rfl, _, rfl, a, xs, rfl, .inr ⟨SqT.of ha, ?_⟩⟩
      exact ⟨_, rfl, a, xs, rfl, .inr (SqT.of ha), fun l nl => ⟨by rw [sizeLine_eq]; show 2 ≤ _; omega, fun d nd => go _ a (Same.refl _) ha l nl d nd⟩⟩
/-! mixed -/
def spMixed : Sp := fun vs H Q _ => ∃ (p c a : Addr) (ns : List Int) (n : Nat) (xs : List V), vs = [.ref p, .ref a] ∧ PenOk n H p c ns ∧ n + xs.length ≤ 1000000 ∧ xs.length ≤ 1000 ∧ H a = some (.lst xs) ∧
  ∀ H' b ys, Sx (· = p) H H' → PenOk (n + xs.length) H' p c ns → H' b = some (.lst ys) → ys.Perm xs → Q (.ref b) H'
abbrev nMx : List Str := ["_law_pen_here", "_law_row", "_law_left", "_law_found", "_law_lap"]
theorem sc_mixed : FnScope nMx ["_law_pen_here", "_law_row"] (defScope s__law_mixed) := ⟨rfl, rfl, rfl, by decide +kernel, rfl, by decide +kernel, by decide +kernel⟩
theorem ca_mixed (T : Tx K mg) : Ca P w K mg base CX0 2 "_law_mixed" spMixed := by
  refine ca0 T.f_q_mixed T.m_q_mixed sc_mixed (fun _ _ _ _ _ _ us hl => match us, hl with | [_, _], _ => rfl) (fun vs H Q E h => ?_) (fun cdv A outer s H vs Q E hr h => ?_)
  · obtain ⟨p, c, a, ns, n, xs, rfl, _⟩ := h
    rfl
  · obtain ⟨p, c, a, ns, n, xs, rfl, hp, hn, hl, ha, k⟩ := h
    have c1 := ca_draw (P := P) (w := w) (base := base) T
    refine ⟨_, pss_cons (ps_par (i := 2) (j := 3) (by rfl) sc_mixed.nd rfl rfl (by decide) rfl rfl (pa_cons (pe_callTy call_list_of (by rfl) T.z_list (by decide +kernel) (pa_cons (pv 1) pa_nil)) (pa_cons (pe_lst pa_nil) pa_nil)) (by rfl))
      (pss_cons (ps_for PassesOwn.never rfl (pi_range1 (by rfl) T.z_range (pa_cons (pe_callB call_len_seq (by rfl) T.z_len PySem.boot_len (pa_cons (pv 1) pa_nil)) pa_nil)) (pg_name (i := 4) sc_mixed.nd rfl (Or.inl rfl))
        (pss_one (ps_expr (pe_bm PySem.F.plainAttrs_list PySem.F.slot_list_append PySem.F.type_list_append mt_append (pv 3) (pa_cons (pe_bm PySem.F.plainAttrs_list PySem.F.slot_list_pop PySem.F.type_list_pop mt_popAt (pv 2) (pa_cons (pe_ca c1 hr (pa_cons (pv 0) (pa_cons (pe_callB call_len_seq (by rfl) T.z_len PySem.boot_len (pa_cons (pv 2) pa_nil)) pa_nil))) pa_nil)) pa_nil)))))
      (pss_one (ps_ret (pv 3)))), ?_⟩
    refine ⟨_, rfl, a, xs, rfl, .inl (SqL.of ha), fun L nL => ⟨Nat.zero_le _, fun F nF => ⟨_, _, rfl, ?_⟩⟩⟩
    have s1 := same_new (o := .lst xs) nL
    have s2 := same_upd (o := .lst []) s1 (s1.free nF)
    have LF : L ≠ F := ne_of_none upd_same nF
    have nF0 := s1.free nF
    have pL : p ≠ L := fun e => hp.pn (by rw [e]; exact nL)
    have pF : p ≠ F := fun e => hp.pn (by rw [e]; exact nF0)
    have cL : c ≠ L := fun e => hp.cn (by rw [e]; exact nL)
    have cF : c ≠ F := fun e => hp.cn (by rw [e]; exact nF0)
    refine ⟨_, rfl, a, xs, rfl, .inl (SqL.of (s2 _ _ ha)), _, rfl, by omega, by omega, ?_⟩
    rw [Int.toNat_natCast]
    refine for_range (fun i σ H5 => ∃ (v4 : Option V) (ls fs : List V), σ = [some (.ref p), some (.ref a), some (.ref L), some (.ref F), v4] ∧ Sx (fun b => b = p ∨ b = L ∨ b = F) H H5 ∧ PenOk (n + i) H5 p c ns ∧ H5 L = some (.lst ls) ∧ H5 F = some (.lst fs) ∧ ls.length + i = xs.length ∧ fs.length = i ∧ (fs ++ ls).Perm xs)
      ⟨none, xs, [], rfl, Sx.ofSame s2, hp.same s2, by rw [upd_ne LF]; exact upd_same, upd_same, rfl, rfl, List.Perm.refl _⟩ ?_ ?_
    · rintro i σ H5 hi ⟨v4, ls, fs, rfl, s5, hp5, hL, hF, ll, lf, pm⟩
      refine ⟨_, rfl, .inl ⟨rfl, _, SqL.of hF⟩, _, rfl, .inl ⟨rfl, _, SqL.of hL⟩, _, rfl, _, rfl, L, ls, rfl, .inl (SqL.of hL), p, c, ns, n + i, _, rfl, hp5, by omega, by omega, by omega, fun H6 j s6 hp6 j0 j1 => ?_⟩
      have jl : j.toNat < ls.length := by omega
      have e : ((j.toNat : Nat) : Int) = j := by omega
      have q : atI ls ((j.toNat : Nat) : Int) = some ls[j.toNat] := atI_nat (List.getElem?_eq_getElem jl)
      obtain ⟨kk, q1, q2, q3, _⟩ := atI_get q
      rw [e] at q1
      have hL6 := s6 _ _ (Ne.symm pL) hL
      have hF6 := s6 _ _ (Ne.symm pF) hF
      refine ⟨L, ls, j, kk, _, rfl, rfl, hL6, by omega, by omega, q1, q2, ?_⟩
      refine ⟨F, fs, _, rfl, rfl, by rw [upd_ne (Ne.symm LF)]; exact hF6, by rw [sizeLine_eq]; omega, ?_⟩
      refine ⟨_, ls.eraseIdx kk, fs ++ [ls[j.toNat]], rfl, ?_, ?_, by rw [upd_ne LF]; exact upd_same, upd_same, ?_, by rw [List.length_append, lf]; rfl, ?_⟩
      · refine fun b o nb q => ?_
        have n1 : b ≠ p := fun e => nb (.inl e)
        have n2 : b ≠ L := fun e => nb (.inr (.inl e))
        have n3 : b ≠ F := fun e => nb (.inr (.inr e))
        rw [upd_ne n3, upd_ne n2]
        exact s6 _ _ n1 (s5 _ _ nb q)
      · exact (hp6.upd pL cL).upd pF cF
      · rw [List.length_eraseIdx_of_lt q3]
        omega
      · have e3 : ls[j.toNat] = ls[kk] := by
          rw [List.getElem?_eq_getElem q3] at q2
          exact (Option.some.inj q2).symm
        rw [e3, List.append_assoc]
        exact (List.Perm.append_left fs (perm_erase ls kk q3)).trans pm
    · rintro σ H5 ⟨v4, ls, fs, rfl, s5, hp5, hL, hF, ll, lf, pm⟩
      have el : ls = [] := List.length_eq_zero_iff.mp (by omega)
      rw [el, List.append_nil] at pm
      refine ⟨_, rfl, k H5 F fs (fun b o nb q => s5 b o (fun e => ?_) q) hp5 hF pm⟩
      rcases e with e | e | e
      · exact nb e
      · rw [e, nL] at q
        cases q
      · rw [e, nF0] at q
        cases q
/-! pen -/
def spPen (K : PySem.W.Frag) : Sp := fun vs H Q _ => ∃ (a : Addr) (ns : List Int), vs = [.ref a] ∧ SqL K H a (ns.map V.int) ∧ ns.length ≤ 63 ∧ ∀ H' p c, Same H H' → PenOk 0 H' p c ns → Q (.ref p) H'
abbrev nPn : List Str := ["_law_script", "_law_fold", "_law_cell"]
theorem sc_pen : FnScope nPn ["_law_script"] (defScope s__law_pen) := ⟨rfl, rfl, rfl, by decide +kernel, rfl, by decide +kernel, by decide +kernel⟩
theorem ca_pen (T : Tx K mg) : Ca P w K mg base CX0 1 "_law_pen" (spPen K) := by
  refine ca0 T.f_q_pen T.m_q_pen sc_pen (fun _ _ _ _ _ _ us hl => match us, hl with | [_], _ => rfl) (fun vs H Q E h => ?_) (fun cdv A outer s H vs Q E hr h => ?_)
  · obtain ⟨a, ns, rfl, _⟩ := h
    rfl
  · obtain ⟨a, ns, rfl, ha, hl, k⟩ := h
    refine ⟨_, pss_cons (ps_set (i := 1) sc_pen.nd rfl (Or.inl rfl) pe_int)
      (pss_cons (ps_for PassesOwn.never rfl (pi_list (pv 0)) (pg_name (i := 2) sc_pen.nd rfl (Or.inl rfl)) (pss_one (ps_set (i := 1) sc_pen.nd rfl (Or.inl rfl) (pe_op op_mod (pe_callTy call_int1 (by rfl) T.z_int (by decide +kernel) (pa_cons (pe_op op_add (pe_op op_mul (pv 1) pe_int) (pv 2)) pa_nil)) pe_int))))
      (pss_one (ps_ret (pe_disp (pps_cons pe_str (pe_callTy call_list_of (by rfl) T.z_list (by decide +kernel) (pa_cons (pv 0) pa_nil)) (pps_cons pe_str pe_int (pps_cons pe_str pe_int (pps_cons pe_str pe_int (pps_cons pe_str (pv 1) pps_nil))))) rfl rfl (by intro q; cases q) (by decide))))), ?_⟩
    refine ⟨_, rfl, a, rfl, ⟨_, ha⟩, for_list (K := K) (a := a) (xs := ns.map V.int) (fun i σ H2 => ∃ (f : Int) (v2 : Option V), σ = [some (.ref a), some (.int f), v2] ∧ H2 = H ∧ 0 ≤ f ∧ f < 1000000007)
      ⟨0, none, rfl, rfl, by omega, by omega⟩ (fun i σ H2 _ ⟨_, _, _, e, _⟩ => e ▸ ha) ?_ ?_⟩
    · rintro i x σ H2 hi ⟨f, v2, rfl, rfl, f0, f1⟩
      rw [List.getElem?_map] at hi
      cases q : ns[i]? with
      | none =>
        rw [q] at hi
        cases hi
      | some y =>
        rw [q] at hi
        cases hi
        refine ⟨_, rfl, _, _, rfl, rfl, .inr (by decide), _, rfl, _, _, rfl, rfl, .inl ⟨_, rfl, _, _, rfl, rfl, (by show (0 : Int) < 1000000007; omega), _, _, rfl, rfl, ?_, ?_⟩⟩
        · exact Int.emod_nonneg _ (by decide)
        · exact Int.emod_lt_of_pos _ (by decide)
    · rintro σ H2 ⟨f, v2, rfl, rfl, f0, f1⟩
      refine fun p np => ⟨_, rfl, a, _, rfl, .inl (sqL_sx (M := fun _ => False) ha (fun z => z) (Sx.ofSame (same_new np))), fun c nc => ?_⟩
      have s1 := same_new (o := .dK []) np
      have s2 := same_upd (o := .lst (ns.map V.int)) s1 (s1.free nc)
      have pc : p ≠ c := ne_of_none upd_same nc
      refine ⟨_, rfl, by rw [upd_ne pc]; exact upd_same, penK c 0 0 0 f, rfl, (by show 5 ≤ 15; omega), ?_⟩
      rw [merge_pen]
      refine k _ p c (fun b o q => ?_) ⟨hl, 0, 0, 0, f, upd_same, by rw [upd_ne (Ne.symm pc)]; exact upd_same, by omega, by omega, by omega, by omega, by omega, f0, by omega⟩
      have e : b ≠ p := ne_of_none q np
      rw [upd_ne e]
      exact s2 _ _ q
end
end K48

namespace K48
open PySem PySem.Spec PyProof.Rows L2
section
variable {P : Program} {w : World} {K : PySem.W.Frag} {mg : Str → Option Value} {base : Heap}
/-! ### the law's own machine -/
theorem sc_q_operand_now : FnScope ["_law_operand", "_law_held"] ["_law_operand", "_law_held"] (defScope s__law_operand_now) := ⟨rfl, rfl, rfl, by decide +kernel, rfl, by decide +kernel, by decide +kernel⟩
theorem ca_q_operand_now (T : Tx K mg) : Ca P w K mg base CX0 1 "_law_operand_now" spOperandNow := by
  refine ca0 T.f_q_operand_now T.m_q_operand_now sc_q_operand_now (fun _ _ _ _ _ _ us hl => match us, hl with | [_, _], _ => rfl) (fun vs H Q E h => ?_) (fun cdv A outer s H vs Q E hr h => ?_)
  · obtain ⟨x, o, d, h, rfl, _⟩ := h
    rfl
  · obtain ⟨x, o, d, h, rfl, hd, hh, k⟩ := h
    refine ⟨_, pss_one (ps_ret (pe_ifExp (pt_val (pe_callB call_isi (by rfl) T.z_isinstance (by decide +kernel) (pa_cons (pv 0) (pa_cons (pe_tyn "tuple" T.z_tuple (by decide +kernel)) pa_nil)))) (pe_dget2 (hu_of hr) (pv 1) (pe_ix ix_tup (pv 0) pe_int (fun _ _ => rfl)) pe_int ⟨rfl, rfl, rfl, rfl⟩) (pv 0))), ?_⟩
    obtain ⟨ty, ki⟩ := opd_isi (K := K) hd
    refine ⟨_, rfl, x, .ty "tuple", _, _, _, rfl, .ty "tuple", ty, ki, _, rfl, ?_⟩
    cases o with
    | pl key =>
      obtain ⟨a, xs, rfl, ha, h3⟩ := Da.tup.mp hd
      obtain ⟨v1, r1, rfl, e1, h3⟩ := DaL.cons.mp h3
      obtain ⟨v2, r2, rfl, e2, h3⟩ := DaL.cons.mp h3
      obtain rfl := e2.key
      refine if_t rfl ⟨_, rfl, d, rfl, .inl ⟨_, .inl hh⟩, _, rfl, a, _, _, _, rfl, rfl, SqT.of ha, at1 _ _ _, _, DGet.k hh, ?_⟩
      rw [getD_hv]
      exact k
    | num i =>
      obtain rfl := Da.int.mp hd
      exact if_f rfl ⟨_, rfl, k⟩
abbrev nVN : List Str := ["_law_told", "_law_held", "_law_read", "_law_operand"]
theorem sc_q_value_now : FnScope nVN ["_law_told", "_law_held"] (defScope s__law_value_now) := ⟨rfl, rfl, rfl, by decide +kernel, rfl, by decide +kernel, by decide +kernel⟩
theorem ca_q_value_now (T : Tx K mg) : Ca P w K mg base CX0 2 "_law_value_now" spValueNow := by
  refine ca0 T.f_q_value_now T.m_q_value_now sc_q_value_now (fun _ _ _ _ _ _ us hl => match us, hl with | [_, _], _ => rfl) (fun vs H Q E h => ?_) (fun cdv A outer s H vs Q E hr h => ?_)
  · obtain ⟨x, v, d, h, rfl, _⟩ := h
    rfl
  · obtain ⟨x, v, d, h, rfl, hd, hok, hh, k⟩ := h
    have c1 := ca_q_operand_now (P := P) (w := w) (base := base) T
    refine ⟨_, pss_cons (ps_setLc (i := 2) (own := [("_law_operand", 3)]) (g := gName 3) (te := tCall spOperandNow [] E0 (tCons (tVar 3) (tCons (tVar 1) tNil))) (tt := tYes) rfl sc_q_value_now.nd rfl rfl (sw_true rfl rfl rfl (by decide +kernel)) (pi_tup (pe_slice sl_tupA (pv 0) (po_some pe_int) po_none)) (blkOk_by (N := nVN) (sc := defScope s__law_value_now) (by decide +kernel))
        (fun _ _ _ _ _ => pg_name (i := 3) sc_q_value_now.nd rfl (Or.inl rfl)) (fun _ _ _ _ _ => pts_nil) (fun _ _ _ _ _ => pe_ca c1 hr (pa_cons (pv 3) (pa_cons (pv 1) pa_nil))))
      (pss_cons (ps_if (pt_cmpR op_eq (pe_ix ix_tup (pv 0) pe_int (fun _ _ => rfl)) pe_str (nomark _)) (pss_one (ps_ret (pe_ix ix_list (pv 2) pe_int (fun _ _ => rfl)))) pss_nil)
      (pss_cons (ps_if (pt_cmpR op_eq (pe_ix ix_tup (pv 0) pe_int (fun _ _ => rfl)) pe_str (nomark _)) (pss_one (ps_ret (pe_op op_add (pe_ix ix_list (pv 2) pe_int (fun _ _ => rfl)) (pe_ix ix_list (pv 2) pe_int (fun _ _ => rfl))))) pss_nil)
      (pss_one (ps_ret (pe_ifExp (pt_cmpR op_eq (pe_ix ix_tup (pv 0) pe_int (fun _ _ => rfl)) pe_str (nomark _)) (pe_op op_sub (pe_ix ix_list (pv 2) pe_int (fun _ _ => rfl)) (pe_ix ix_list (pv 2) pe_int (fun _ _ => rfl))) (pe_op op_mul (pe_ix ix_list (pv 2) pe_int (fun _ _ => rfl)) (pe_ix ix_list (pv 2) pe_int (fun _ _ => rfl)))))))), ?_⟩
    obtain ⟨a, xs, rfl, ha, h3⟩ := Da.tup.mp hd
    obtain ⟨v1, r1, rfl, e1, h4⟩ := DaL.cons.mp h3
    obtain rfl := Da.str.mp e1
    have lx := h4.length
    have lv := (vl_opds v).2
    rw [List.length_map] at lx
    refine ⟨_, rfl, _, rfl, ?_⟩
    simp only [tNoPart]
    show rSlA K (.ref a) (some 1) none H _
    refine sl_tail ha fun p np => ?_
    have s1 := same_new (o := .tup r1) np
    refine ⟨p, rfl, ⟨_, SqT.of upd_same⟩, fun D nD => ?_⟩
    refine lc_valsT (K := K) (a := p) (xs := r1) (ys := (v.opds.map (Opd.now h)).map V.int) (SqT.of upd_same) (by rw [List.length_map, List.length_map, lx]) (by omega) nD ?_ ?_
    · intro i x y H2 hi hy s2 Q2 k2
      obtain ⟨d', h1, h2⟩ := (h4.kp (Kp.of (s1.trans s2))).get hi
      rw [List.getElem?_map] at h1
      rw [List.getElem?_map, List.getElem?_map] at hy
      cases q : v.opds[i]? with
      | none =>
        rw [q] at h1
        cases h1
      | some o =>
        rw [q] at h1 hy
        cases h1
        cases hy
        exact ⟨wipe_back, _, rfl, _, rfl, x, o, d, h, rfl, h2, (s1.trans s2) _ _ hh, k2 H2 (Same.refl _)⟩
    · intro H2 s2 hD
      have s3 := s1.trans s2
      have ha2 := s3 _ _ ha
      have kk := k H2 s3
      cases v with
      | as x =>
        exact ⟨_, rfl, a, _, _, _, rfl, rfl, SqT.of ha2, at0 _ _, rfl, _, rfl, if_t (decide_eq_true rfl) ⟨_, rfl, D, _, _, _, rfl, rfl, SqL.of hD, at0 _ _, kk⟩⟩
      | plus x y =>
        refine ⟨_, rfl, a, _, _, _, rfl, rfl, SqT.of ha2, at0 _ _, rfl, _, rfl, if_f (sne "plus" "as") ?_⟩
        refine ⟨_, rfl, a, _, _, _, rfl, rfl, SqT.of ha2, at0 _ _, rfl, _, rfl, if_t (decide_eq_true rfl) ?_⟩
        exact ⟨_, rfl, D, _, _, _, rfl, rfl, SqL.of hD, at0 _ _, _, rfl, D, _, _, _, rfl, rfl, SqL.of hD, at1 _ _ _, _, _, rfl, rfl, kk⟩
      | less x y =>
        refine ⟨_, rfl, a, _, _, _, rfl, rfl, SqT.of ha2, at0 _ _, rfl, _, rfl, if_f (sne "less" "as") ?_⟩
        refine ⟨_, rfl, a, _, _, _, rfl, rfl, SqT.of ha2, at0 _ _, rfl, _, rfl, if_f (sne "less" "plus") ?_⟩
        refine ⟨_, rfl, a, _, _, _, rfl, rfl, SqT.of ha2, at0 _ _, rfl, _, rfl, if_t (decide_eq_true rfl) ?_⟩
        exact ⟨_, rfl, D, _, _, _, rfl, rfl, SqL.of hD, at0 _ _, _, rfl, D, _, _, _, rfl, rfl, SqL.of hD, at1 _ _ _, _, _, rfl, rfl, kk⟩
      | times x y =>
        refine ⟨_, rfl, a, _, _, _, rfl, rfl, SqT.of ha2, at0 _ _, rfl, _, rfl, if_f (sne "times" "as") ?_⟩
        refine ⟨_, rfl, a, _, _, _, rfl, rfl, SqT.of ha2, at0 _ _, rfl, _, rfl, if_f (sne "times" "plus") ?_⟩
        refine ⟨_, rfl, a, _, _, _, rfl, rfl, SqT.of ha2, at0 _ _, rfl, _, rfl, if_f (sne "times" "less") ?_⟩
        refine ⟨_, rfl, D, _, _, _, rfl, rfl, SqL.of hD, at0 _ _, _, rfl, D, _, _, _, rfl, rfl, SqL.of hD, at1 _ _ _, _, _, rfl, rfl, .inr ?_, kk⟩
        have h2 : -999 ≤ y ∧ y ≤ 999 := hok
        show -(2 ^ 64) < y ∧ y < 2 ^ 64
        omega
abbrev nPN : List Str := ["_law_pair", "_law_held", "_law_one", "_law_other"]
theorem sc_q_pair_now : FnScope nPN ["_law_pair", "_law_held"] (defScope s__law_pair_now) := ⟨rfl, rfl, rfl, by decide +kernel, rfl, by decide +kernel, by decide +kernel⟩
theorem ca_q_pair_now (T : Tx K mg) : Ca P w K mg base CX0 2 "_law_pair_now" spHoldsNow := by
  refine ca0 T.f_q_pair_now T.m_q_pair_now sc_q_pair_now (fun _ _ _ _ _ _ us hl => match us, hl with | [_, _], _ => rfl) (fun vs H Q E h => ?_) (fun cdv A outer s H vs Q E hr h => ?_)
  · obtain ⟨x, p, d, h, rfl, _⟩ := h
    rfl
  · obtain ⟨x, v, d, h, rfl, hd, hh, k⟩ := h
    have c1 := ca_q_operand_now (P := P) (w := w) (base := base) T
    refine ⟨_, pss_cons (ps_par (i := 2) (j := 3) (by rfl) sc_q_pair_now.nd rfl rfl (by decide) rfl rfl (pa_cons (pe_ca c1 hr (pa_cons (pe_ix ix_tup (pv 0) pe_int (fun _ _ => rfl)) (pa_cons (pv 1) pa_nil))) (pa_cons (pe_ca c1 hr (pa_cons (pe_ix ix_tup (pv 0) pe_int (fun _ _ => rfl)) (pa_cons (pv 1) pa_nil))) pa_nil)) (by rfl))
      (pss_cons (ps_if (pt_cmpR op_eq (pe_ix ix_tup (pv 0) pe_int (fun _ _ => rfl)) pe_str (nomark _)) (pss_one (ps_ret (pe_cmpR op_eq (pv 2) (pv 3) (nomark _)))) pss_nil)
      (pss_one (ps_ret (pe_ifExp (pt_cmpR op_eq (pe_ix ix_tup (pv 0) pe_int (fun _ _ => rfl)) pe_str (nomark _)) (pe_cmpR op_lt (pv 2) (pv 3) (nomark _)) (pe_cmpR op_le (pv 2) (pv 3) (nomark _)))))), ?_⟩
    obtain ⟨a, xs, rfl, ha, h3⟩ := Da.tup.mp hd
    obtain ⟨v1, r1, rfl, e1, h4⟩ := DaL.cons.mp h3
    obtain rfl := Da.str.mp e1
    obtain ⟨v2, r2, rfl, e2, h5⟩ := DaL.cons.mp h4
    obtain ⟨v3, r3, rfl, e3, h6⟩ := DaL.cons.mp h5
    refine ⟨_, rfl, a, _, _, _, rfl, rfl, SqT.of ha, at1 _ _ _, _, rfl, v2, v.a, d, h, rfl, e2, hh, ?_⟩
    refine ⟨_, rfl, a, _, _, _, rfl, rfl, SqT.of ha, at2 _ _ _ _, _, rfl, v3, v.b, d, h, rfl, e3, hh, ?_⟩
    refine ⟨_, _, rfl, ?_⟩
    have kk := k H (Same.refl _)
    obtain ⟨cc, ca, cb⟩ := v
    cases cc with
    | below =>
      refine ⟨_, rfl, a, _, _, _, rfl, rfl, SqT.of ha, at0 _ _, rfl, _, rfl, if_f (sne "below" "is") ?_⟩
      exact ⟨_, rfl, a, _, _, _, rfl, rfl, SqT.of ha, at0 _ _, rfl, _, rfl, if_t (decide_eq_true rfl) ⟨_, rfl, _, rfl, _, _, rfl, rfl, kk⟩⟩
    | most =>
      refine ⟨_, rfl, a, _, _, _, rfl, rfl, SqT.of ha, at0 _ _, rfl, _, rfl, if_f (sne "most" "is") ?_⟩
      exact ⟨_, rfl, a, _, _, _, rfl, rfl, SqT.of ha, at0 _ _, rfl, _, rfl, if_f (sne "most" "below") ⟨_, rfl, _, rfl, _, _, rfl, rfl, kk⟩⟩
    | is =>
      refine ⟨_, rfl, a, _, _, _, rfl, rfl, SqT.of ha, at0 _ _, rfl, _, rfl, if_t (decide_eq_true rfl) ⟨_, rfl, _, rfl, rfl, ?_⟩⟩
      refine q_bl kk ?_
      show decide (V.int _ = V.int _) = decide (_ = _)
      by_cases e : ca.now h = cb.now h
      · rw [e, decide_eq_true rfl, decide_eq_true rfl]
      · rw [decide_eq_false e, decide_eq_false fun q => e (V.int.inj q)]
end
end K48

namespace K48
open PySem PySem.Spec PyProof.Rows L2
section
variable {P : Program} {w : World} {K : PySem.W.Frag} {mg : Str → Option Value} {base : Heap}
/-! behind -/
/-- a step as data, taken apart -/
theorem step_da {H : Hp} {s : Sp1} {x : V} (h : Da H s.d x) : ∃ a d m, x = .ref a ∧ H a = some (.tup [.int s.start, d, m, .int s.fin]) ∧ Da H s.deed.d d ∧ Da H (.tuple (s.moves.map mvd)) m := by
  obtain ⟨a, xs, rfl, ha, h3⟩ := Da.tup.mp h
  obtain ⟨v1, r1, rfl, e1, h4⟩ := DaL.cons.mp h3
  obtain ⟨v2, r2, rfl, e2, h5⟩ := DaL.cons.mp h4
  obtain ⟨v3, r3, rfl, e3, h6⟩ := DaL.cons.mp h5
  obtain ⟨v4, r4, rfl, e4, h7⟩ := DaL.cons.mp h6
  obtain rfl := DaL.nil.mp h7
  obtain rfl := Da.int.mp e1
  obtain rfl := Da.int.mp e4
  exact ⟨a, v2, v3, rfl, ha, e2, e3⟩
def spBehind : Sp := fun vs H Q _ => ∃ (x : V) (d : Addr) (s : Sp1) (h : Held), vs = [x, .ref d] ∧ Da H s.d x ∧ s.ok ∧ H d = some (.dK (hv h)) ∧ h.length ≤ 100000 ∧ ∀ H' b, Same H H' → H' b = some (.dK (hv (behind s h))) → Q (.ref b) H'
abbrev nBe : List Str := ["_law_step", "_law_held", "_law_found", "_law_to", "_law_source"]
theorem sc_behind : FnScope nBe ["_law_step", "_law_held"] (defScope s__law_behind) := ⟨rfl, rfl, rfl, by decide +kernel, rfl, by decide +kernel, by decide +kernel⟩
theorem ca_behind (T : Tx K mg) : Ca P w K mg base CX0 3 "_law_behind" spBehind := by
  refine ca0 T.f_q_behind T.m_q_behind sc_behind (fun _ _ _ _ _ _ us hl => match us, hl with | [_, _], _ => rfl) (fun vs H Q E h => ?_) (fun cdv A outer s H vs Q E hr h => ?_)
  · obtain ⟨x, d, s, h, rfl, _⟩ := h
    rfl
  · obtain ⟨x, d, z, h, rfl, hd, hok, hh, hlen, k⟩ := h
    have c1 := ca_q_value_now (P := P) (w := w) (base := base) T
    have u := hu_of hr
    refine ⟨_, pss_cons (ps_set (i := 2) sc_behind.nd rfl (Or.inl rfl) (pe_callTy call_dictD (by rfl) T.z_dict (by decide +kernel) (pa_cons (pv 1) pa_nil)))
      (pss_cons (ps_for PassesOwn.never rfl (pi_tup (pe_ix ix_tup (pv 0) pe_int (fun _ _ => rfl))) (pg_tup (by rfl) (pgs_cons (pg_name (i := 3) sc_behind.nd rfl (Or.inl rfl)) (pgs_cons (pg_name (i := 4) sc_behind.nd rfl (Or.inl rfl)) pgs_nil)))
        (pss_one (ps_dput u (pv 2) (pv 3) (pe_dget2 u (pv 1) (pv 4) pe_int ⟨rfl, rfl, rfl, rfl⟩) rfl)))
      (pss_cons (ps_if (PW.pt (pw_and (pt_cmpR op_eq (pe_ix ix_tup (pe_ix ix_tup (pv 0) pe_int (fun _ _ => rfl)) pe_int (fun _ _ => rfl)) pe_str (nomark _)) (pw_and1 (pt_cmpR op_notN (pe_ix ix_tup (pe_ix ix_tup (pv 0) pe_int (fun _ _ => rfl)) pe_int (fun _ _ => rfl)) pe_non (nomark _)))))
        (pss_one (ps_dput u (pv 2) (pe_ix ix_tup (pe_ix ix_tup (pv 0) pe_int (fun _ _ => rfl)) pe_int (fun _ _ => rfl)) (pe_ca c1 hr (pa_cons (pe_ix ix_tup (pe_ix ix_tup (pv 0) pe_int (fun _ _ => rfl)) pe_int (fun _ _ => rfl)) (pa_cons (pv 1) pa_nil))) rfl)) pss_nil)
      (pss_one (ps_ret (pv 2))))), ?_⟩
    obtain ⟨a, dv, mv, rfl, ha, hdd, hm⟩ := step_da hd
    obtain ⟨ma, ms, rfl, hma, hms⟩ := Da.tup.mp hm
    have lms := hms.length
    rw [List.length_map] at lms
    have hlm := hok.m
    refine ⟨_, rfl, d, hv h, rfl, .inl hh, fun F nF => ?_⟩
    have s1 := same_new (o := .dK (hv h)) nF
    have dF : d ≠ F := ne_of_none hh nF
    have aF : a ≠ F := ne_of_none ha nF
    have mF : ma ≠ F := ne_of_none hma nF
    refine ⟨_, rfl, a, _, _, _, rfl, rfl, SqT.of (s1 _ _ ha), at2 _ _ _ _, ma, rfl, ⟨_, SqT.of (s1 _ _ hma)⟩, ?_⟩
    have lr : (reads h z.moves).length = z.moves.length := by
      unfold reads
      rw [List.length_map]
    refine for_tup (K := K) (a := ma) (xs := ms) (fun i σ H2 => ∃ v3 v4, σ = [some (.ref a), some (.ref d), some (.ref F), v3, v4] ∧ Sx (· = F) H H2 ∧ H2 F = some (.dK (hv (putAll h ((reads h z.moves).take i)))))
      ⟨none, none, rfl, Sx.ofSame s1, upd_same⟩ (fun i σ H2 _ ⟨_, _, _, q, _⟩ => SqT.of (q _ _ mF hma)) ?_ ?_
    · rintro i x σ H2 hi ⟨v3, v4, rfl, q2, hF2⟩
      have kp2 : Kp H H2 := ⟨fun b ys hb => q2 b _ (ne_of_none hb nF) hb, fun b ys hb => q2 b _ (ne_of_none hb nF) hb⟩
      obtain ⟨m, t, hmi, rfl, ht⟩ := mv_get (hms.kp kp2) hi
      have hd2 := q2 _ _ dF hh
      have hri : (reads h z.moves)[i]? = some (m.1, look h m.2) := by
        unfold reads
        rw [List.getElem?_map, hmi]
        rfl
      refine ⟨t, _, rfl, SqT.of ht, rfl, _, _, rfl, _, _, rfl, rfl, ?_⟩
      refine ⟨_, rfl, d, rfl, .inl ⟨_, .inl hd2⟩, _, rfl, _, DGet.k hd2, ?_⟩
      rw [getD_hv]
      refine ⟨_, rfl, _, rfl, F, _, rfl, DPut.k hF2 ?_, _, _, rfl, q2.at rfl, ?_⟩
      · have := putAll_len ((reads h z.moves).take i) h
        have l3 : ((reads h z.moves).take i).length ≤ 100 := by
          rw [List.length_take]
          omega
        unfold hv
        rw [List.length_map, sizeLine_eq]
        omega
      · rw [upd_same, putK_hv, putAll_take h hri]
    · rintro σ H2 ⟨v3, v4, rfl, q2, hF2⟩
      rw [lms, List.take_of_length_le (by omega)] at hF2
      have kp2 : Kp H H2 := ⟨fun b ys hb => q2 b _ (ne_of_none hb nF) hb, fun b ys hb => q2 b _ (ne_of_none hb nF) hb⟩
      have s2 : Same H H2 := fun b o hb => q2 b o (ne_of_none hb nF) hb
      have ha2 := s2 _ _ ha
      have fin : ∀ sd : List (Key × Int), z.deed.sets h = sd → sd = [] → H2 F = some (.dK (hv (behind z h))) := fun sd e1 e2 => by
        unfold behind
        rw [e1, e2, List.append_nil]
        exact hF2
      obtain ⟨sst, sd, sm, sf⟩ := z
      cases sd with
      | set t v =>
        obtain ⟨b, xs, rfl, hb, h3⟩ := Da.tup.mp hdd
        obtain ⟨v1, r1, rfl, e1, h4⟩ := DaL.cons.mp h3
        obtain rfl := Da.str.mp e1
        obtain ⟨v2, r2, rfl, e4, h5⟩ := DaL.cons.mp h4
        obtain ⟨v3', r3, rfl, e5, h6⟩ := DaL.cons.mp h5
        have hb2 := s2 _ _ hb
        refine ⟨_, rfl, a, _, _, _, rfl, rfl, SqT.of ha2, at1 _ _ _, b, _, _, _, rfl, rfl, SqT.of hb2, at0 _ _, rfl, _, rfl, if_t (decide_eq_true rfl) ?_⟩
        refine ⟨_, rfl, a, _, _, _, rfl, rfl, SqT.of ha2, at1 _ _ _, b, _, _, _, rfl, rfl, SqT.of hb2, at1 _ _ _, rfl, _, rfl, ?_⟩
        cases t with
        | none =>
          obtain rfl := Da.none.mp e4
          exact if_f rfl ⟨_, rfl, k H2 F s2 (fin _ rfl rfl)⟩
        | some key =>
          obtain rfl := Da.key (k := key) e4
          refine if_t (by cases key <;> rfl) ?_
          refine ⟨_, rfl, a, _, _, _, rfl, rfl, SqT.of ha2, at1 _ _ _, b, _, _, _, rfl, rfl, SqT.of hb2, at2 _ _ _ _, ?_⟩
          refine ⟨_, rfl, v3', v, d, h, rfl, e5.kp kp2, hok.v _ _ rfl, s2 _ _ hh, fun H3 s3 => ?_⟩
          refine ⟨_, rfl, _, rfl, a, _, _, _, rfl, rfl, SqT.of (s3 _ _ ha2), at1 _ _ _, b, _, _, _, rfl, rfl, SqT.of (s3 _ _ hb2), at1 _ _ _, F, _, rfl, DPut.k (s3 _ _ hF2) ?_, ?_⟩
          · have := putAll_len (reads h sm) h
            have hlm' : sm.length ≤ 100 := hlm
            have lr' : (reads h sm).length = sm.length := lr
            unfold hv
            rw [List.length_map, sizeLine_eq]
            show (putAll h (reads h sm)).length < _
            omega
          · refine ⟨_, rfl, k _ F (fun b o q => ?_) ?_⟩
            · rw [upd_ne (ne_of_none q nF)]
              exact s3 _ _ (s2 _ _ q)
            · rw [upd_same, putK_hv]
              show some (HO.dK (hv (put (putAll h (reads h sm)) key (v.now h)))) = some (HO.dK (hv (putAll h (reads h sm ++ [(key, v.now h)]))))
              unfold putAll
              rw [List.foldl_append]
              rfl
      | skip =>
        obtain ⟨b, xs, rfl, hb, h3⟩ := Da.tup.mp hdd
        obtain ⟨v1, r1, rfl, e1, h4⟩ := DaL.cons.mp h3
        obtain rfl := Da.str.mp e1
        exact ⟨_, rfl, a, _, _, _, rfl, rfl, SqT.of ha2, at1 _ _ _, b, _, _, _, rfl, rfl, SqT.of (s2 _ _ hb), at0 _ _, rfl, _, rfl, if_f (sne "skip" "set") (if_f rfl ⟨_, rfl, k H2 F s2 (fin _ rfl rfl)⟩)⟩
      | give o =>
        obtain ⟨b, xs, rfl, hb, h3⟩ := Da.tup.mp hdd
        obtain ⟨v1, r1, rfl, e1, h4⟩ := DaL.cons.mp h3
        obtain rfl := Da.str.mp e1
        exact ⟨_, rfl, a, _, _, _, rfl, rfl, SqT.of ha2, at1 _ _ _, b, _, _, _, rfl, rfl, SqT.of (s2 _ _ hb), at0 _ _, rfl, _, rfl, if_f (sne "give" "set") (if_f rfl ⟨_, rfl, k H2 F s2 (fin _ rfl rfl)⟩)⟩
      | test pr bb =>
        obtain ⟨b, xs, rfl, hb, h3⟩ := Da.tup.mp hdd
        obtain ⟨v1, r1, rfl, e1, h4⟩ := DaL.cons.mp h3
        obtain rfl := Da.str.mp e1
        exact ⟨_, rfl, a, _, _, _, rfl, rfl, SqT.of ha2, at1 _ _ _, b, _, _, _, rfl, rfl, SqT.of (s2 _ _ hb), at0 _ _, rfl, _, rfl, if_f (sne "test" "set") (if_f rfl ⟨_, rfl, k H2 F s2 (fin _ rfl rfl)⟩)⟩
end
end K48

namespace K48
open PySem PySem.Spec PyProof.Rows L2
theorem cells_dk : ∀ (os : List Opd) (acc : List Str), ((os.filterMap Opd.cell?).map Sum.inr : List Key).foldl addK (acc.map Sum.inr) = ((cells os acc).map Sum.inr : List Key)
  | [], acc => rfl
  | o :: r, acc => by
    have st : ∀ s : Str, addK (acc.map Sum.inr) (Sum.inr s : Key) = ((if s ∈ acc then acc else acc ++ [s]).map Sum.inr : List Key) := fun s => by
      have e : mK (Sum.inr s : Key) (acc.map Sum.inr) = decide (s ∈ acc) := by
        by_cases h : s ∈ acc
        · rw [decide_eq_true h]
          exact mK_iff.mpr (List.mem_map.mpr ⟨s, h, rfl⟩)
        · rw [decide_eq_false h]
          refine mK_no fun q => h ?_
          obtain ⟨t, ht, e⟩ := List.mem_map.mp q
          cases e
          exact ht
      unfold addK
      rw [e]
      by_cases h : s ∈ acc
      · rw [if_pos (decide_eq_true h), if_pos h]
      · rw [if_neg (by rw [decide_eq_false h]; decide), if_neg h, List.map_append]
        rfl
    unfold cells
    cases q : o.cell? with
    | none =>
      rw [List.filterMap_cons_none q]
      exact cells_dk r acc
    | some s =>
      rw [List.filterMap_cons_some q, List.map_cons, List.foldl_cons, st]
      exact cells_dk r _
theorem cells_len (os : List Opd) : (dk ((os.filterMap Opd.cell?).map Sum.inr)).length = (cells os []).length := by
  have := congrArg List.length (cells_dk os [])
  rw [List.length_map] at this
  exact this
section
variable {P : Program} {w : World} {K : PySem.W.Frag} {mg : Str → Option Value} {base : Heap}
/-! operands_in -/
theorem sc_operands_in : FnScope ["_law_deed"] ["_law_deed"] (defScope s__law_operands_in) := ⟨rfl, rfl, rfl, by decide +kernel, rfl, by decide +kernel, by decide +kernel⟩
theorem ca_operands_in (T : Tx K mg) : Ca P w K mg base CX0 1 "_law_operands_in" spOperandsOf := by
  refine ca0 T.f_q_operands_in T.m_q_operands_in sc_operands_in (fun _ _ _ _ _ _ us hl => match us, hl with | [_], _ => rfl) (fun vs H Q E h => ?_) (fun cdv A outer s H vs Q E hr h => ?_)
  · obtain ⟨x, d, rfl, _⟩ := h
    rfl
  · obtain ⟨x, d, rfl, hd, k⟩ := h
    refine ⟨_, pss_cons (ps_if (pt_cmpR op_eq (pe_ix ix_tup (pv 0) pe_int (fun _ _ => rfl)) pe_str (nomark _)) (pss_one (ps_ret (pe_slice sl_tupA (pe_ix ix_tup (pv 0) pe_int (fun _ _ => rfl)) (po_some pe_int) po_none))) pss_nil)
      (pss_one (ps_ret (pe_ifExp (pt_cmpR op_eq (pe_ix ix_tup (pv 0) pe_int (fun _ _ => rfl)) pe_str (nomark _)) (pe_slice sl_tupA (pe_ix ix_tup (pv 0) pe_int (fun _ _ => rfl)) (po_some pe_int) po_none) (pe_slice sl_tupA (pv 0) (po_some pe_int) po_none)))), ?_⟩
    cases d with
    | set t v =>
      obtain ⟨a, xs, rfl, ha, h3⟩ := Da.tup.mp hd
      obtain ⟨v1, r1, rfl, e1, h3⟩ := DaL.cons.mp h3
      obtain ⟨v2, r2, rfl, e2, h3⟩ := DaL.cons.mp h3
      obtain ⟨v3, r3, rfl, e3, h3⟩ := DaL.cons.mp h3
      obtain rfl := DaL.nil.mp h3
      obtain rfl := Da.str.mp e1
      obtain ⟨b, ys, rfl, hb, h4⟩ := Da.tup.mp e3
      obtain ⟨y1, s1, rfl, f1, h4⟩ := DaL.cons.mp h4
      refine ⟨_, rfl, a, _, _, _, rfl, rfl, SqT.of ha, rfl, rfl, _, rfl, if_t (decide_eq_true rfl) ?_⟩
      refine ⟨_, rfl, a, _, _, _, rfl, rfl, SqT.of ha, rfl, _, rfl, sl_tail hb fun p hp => ?_⟩
      exact k _ p _ (same_new hp) upd_same (h4.kp (Kp.of (same_new hp)))
    | skip =>
      obtain ⟨a, xs, rfl, ha, h3⟩ := Da.tup.mp hd
      obtain ⟨v1, r1, rfl, e1, h4⟩ := DaL.cons.mp h3
      obtain rfl := Da.str.mp e1
      refine ⟨_, rfl, a, _, _, _, rfl, rfl, SqT.of ha, at0 _ _, rfl, _, rfl, if_f (sne "skip" "set") ?_⟩
      refine ⟨_, rfl, a, _, _, _, rfl, rfl, SqT.of ha, at0 _ _, rfl, _, rfl, if_f (sne "skip" "test") ?_⟩
      refine ⟨_, rfl, _, rfl, sl_tail ha fun p hp => ?_⟩
      exact k _ p _ (same_new hp) upd_same (h4.kp (Kp.of (same_new hp)))
    | give o =>
      obtain ⟨a, xs, rfl, ha, h3⟩ := Da.tup.mp hd
      obtain ⟨v1, r1, rfl, e1, h4⟩ := DaL.cons.mp h3
      obtain rfl := Da.str.mp e1
      refine ⟨_, rfl, a, _, _, _, rfl, rfl, SqT.of ha, at0 _ _, rfl, _, rfl, if_f (sne "give" "set") ?_⟩
      refine ⟨_, rfl, a, _, _, _, rfl, rfl, SqT.of ha, at0 _ _, rfl, _, rfl, if_f (sne "give" "test") ?_⟩
      refine ⟨_, rfl, _, rfl, sl_tail ha fun p hp => ?_⟩
      exact k _ p _ (same_new hp) upd_same (h4.kp (Kp.of (same_new hp)))
    | test pr b =>
      obtain ⟨a, xs, rfl, ha, h3⟩ := Da.tup.mp hd
      obtain ⟨v1, r1, rfl, e1, h3⟩ := DaL.cons.mp h3
      obtain ⟨v2, r2, rfl, e2, h3⟩ := DaL.cons.mp h3
      obtain rfl := Da.str.mp e1
      obtain ⟨b', ys, rfl, hb, h4⟩ := Da.tup.mp e2
      obtain ⟨y1, s1, rfl, f1, h4⟩ := DaL.cons.mp h4
      refine ⟨_, rfl, a, _, _, _, rfl, rfl, SqT.of ha, at0 _ _, rfl, _, rfl, if_f (sne "test" "set") ?_⟩
      refine ⟨_, rfl, a, _, _, _, rfl, rfl, SqT.of ha, at0 _ _, rfl, _, rfl, if_t (decide_eq_true rfl) ?_⟩
      refine ⟨_, rfl, a, _, _, _, rfl, rfl, SqT.of ha, at1 _ _ _, _, rfl, sl_tail hb fun p hp => ?_⟩
      exact k _ p _ (same_new hp) upd_same (h4.kp (Kp.of (same_new hp)))
/-! step_count -/
def spStepCount : Sp := fun vs H Q _ => ∃ (x : V) (s : Sp1), vs = [x] ∧ Da H s.d x ∧ s.moves.length ≤ 100 ∧ ∀ H', Same H H' → Q (.int s.count) H'
abbrev nSC : List Str := ["_law_step", "_law_cells", "_law_operand"]
theorem sc_step_count : FnScope nSC ["_law_step"] (defScope s__law_step_count) := ⟨rfl, rfl, rfl, by decide +kernel, rfl, by decide +kernel, by decide +kernel⟩
theorem ca_step_count (T : Tx K mg) : Ca P w K mg base CX0 2 "_law_step_count" spStepCount := by
  refine ca0 T.f_q_step_count T.m_q_step_count sc_step_count (fun _ _ _ _ _ _ us hl => match us, hl with | [_], _ => rfl) (fun vs H Q E h => ?_) (fun cdv A outer s H vs Q E hr h => ?_)
  · obtain ⟨x, s, rfl, _⟩ := h
    rfl
  · obtain ⟨x, z, rfl, hd, hlen, k⟩ := h
    have c1 := ca_operands_in (P := P) (w := w) (base := base) T
    refine ⟨_, pss_cons (ps_set (i := 1) sc_step_count.nd rfl (Or.inl rfl) (pe_lst pa_nil))
      (pss_cons (ps_for PassesOwn.never rfl (pi_tup (pe_ca c1 hr (pa_cons (pe_ix ix_tup (pv 0) pe_int (fun _ _ => rfl)) pa_nil))) (pg_name (i := 2) sc_step_count.nd rfl (Or.inl rfl))
        (pss_one (ps_if (PW.pt (pw_and (pt_val (pe_callB call_isi (by rfl) T.z_isinstance (by decide +kernel) (pa_cons (pv 2) (pa_cons (pe_tyn "tuple" T.z_tuple (by decide +kernel)) pa_nil))))
            (pw_and1 (pt_val (pe_callB call_isi (by rfl) T.z_isinstance (by decide +kernel) (pa_cons (pe_ix ix_tup (pv 2) pe_int (fun _ _ => rfl)) (pa_cons (pe_tyn "str" T.z_str (by decide +kernel)) pa_nil)))))))
          (pss_one (ps_expr (pe_bm PySem.F.plainAttrs_list PySem.F.slot_list_append PySem.F.type_list_append mt_append (pv 1) (pa_cons (pe_ix ix_tup (pv 2) pe_int (fun _ _ => rfl)) pa_nil)))) pss_nil)))
      (pss_one (ps_ret (pe_op op_add (pe_op op_add (pe_lenSetK T.z_len T.z_set (pv 1)) (pe_callB call_len_seq (by rfl) T.z_len PySem.boot_len (pa_cons (pe_ix ix_tup (pv 0) pe_int (fun _ _ => rfl)) pa_nil)))
        (pe_callTy call_int1 (by rfl) T.z_int (by decide +kernel) (pa_cons (pe_and (pe_cmpR op_eq (pe_ix ix_tup (pe_ix ix_tup (pv 0) pe_int (fun _ _ => rfl)) pe_int (fun _ _ => rfl)) pe_str (nomark _)) (pe_one (pe_callB call_isi (by rfl) T.z_isinstance (by decide +kernel) (pa_cons (pe_ix ix_tup (pe_ix ix_tup (pv 0) pe_int (fun _ _ => rfl)) pe_int (fun _ _ => rfl)) (pa_cons (pe_tyn "str" T.z_str (by decide +kernel)) pa_nil))))) pa_nil)))))), ?_⟩
    obtain ⟨a, dv, mv, rfl, ha, hdd, hm⟩ := step_da hd
    obtain ⟨ma, ms, rfl, hma, hms⟩ := Da.tup.mp hm
    have lms := hms.length
    rw [List.length_map] at lms
    refine ⟨Nat.zero_le _, fun D nD => ?_⟩
    have s1 : Same H (upd H D (.lst [])) := same_new nD
    refine ⟨_, rfl, a, _, _, _, rfl, rfl, SqT.of (s1 _ _ ha), at1 _ _ _, dv, z.deed, rfl, hdd.kp (Kp.of s1), fun H2 p xs s2 hp hxs => ?_⟩
    have lx := hxs.length
    rw [List.length_map] at lx
    have l2 := opds_len z.deed
    have pD : ¬ p = D := fun q => by
      rw [q, s2 _ _ upd_same] at hp
      cases hp
    refine ⟨p, rfl, ⟨_, SqT.of hp⟩, for_tup (K := K) (a := p) (xs := xs) (fun i σ H3 => ∃ v, σ = [some (.ref a), some (.ref D), v] ∧ Sx (· = D) H2 H3 ∧ H3 D = some (.lst (((z.deed.opds.take i).filterMap Opd.cell?).map V.str)))
      ⟨none, rfl, Sx.refl _ _, s2 _ _ upd_same⟩ (fun i σ H3 _ ⟨_, _, q, _⟩ => sqT_sx (SqT.of hp) pD q) ?_ ?_⟩
    · rintro i x σ H3 hi ⟨v, rfl, q3, d3⟩
      obtain ⟨dd, h1, h2⟩ := hxs.get hi
      rw [List.getElem?_map] at h1
      cases ho : z.deed.opds[i]? with
      | none =>
        rw [ho] at h1
        cases h1
      | some o =>
        rw [ho] at h1
        obtain rfl := Option.some.inj h1
        have et : z.deed.opds.take (i + 1) = z.deed.opds.take i ++ [o] := by
          rw [List.take_add_one, ho]
          rfl
        have lf : ((z.deed.opds.take i).filterMap Opd.cell?).length ≤ 2 := by
          have h4 := List.length_filterMap_le Opd.cell? (z.deed.opds.take i)
          rw [List.length_take] at h4
          omega
        rw [et, List.filterMap_append]
        cases o with
        | num n =>
          obtain rfl := Da.int.mp h2
          have hk : Kd H3 (.int n) "int" := .int n
          refine ⟨_, rfl, _, .ty "tuple", _, _, _, rfl, .ty "tuple", hk.ty, kit_tuple hk.mem, _, rfl, if_f (by decide) (if_f rfl ?_)⟩
          refine ⟨_, rfl, q3, ?_⟩
          rw [d3]
          simp [Opd.cell?]
        | pl key =>
          obtain ⟨b, ys, rfl, hb, h3⟩ := Da.tup.mp h2
          obtain ⟨v1, r1, rfl, e1, h4⟩ := DaL.cons.mp h3
          obtain ⟨v2, r2, rfl, e2, h5⟩ := DaL.cons.mp h4
          obtain rfl := e2.key
          have bD : ¬ b = D := fun q => by
            rw [q, s2 _ _ upd_same] at hb
            cases hb
          have hb3 := q3 _ _ bD hb
          have hk : Kd H3 (.ref b) "tuple" := .tup hb3
          refine ⟨_, rfl, _, .ty "tuple", _, _, _, rfl, .ty "tuple", hk.ty, kit_tuple hk.mem, _, rfl, if_t (by decide) ?_⟩
          have hk2 := key_kd H3 key
          refine ⟨_, rfl, b, _, _, _, rfl, rfl, SqT.of hb3, at1 _ _ _, _, .ty "str", _, _, _, rfl, .ty "str", hk2.ty, kit_str hk2.mem, _, rfl, ?_⟩
          cases key with
          | inl n =>
            refine if_f int_not_str ?_
            refine ⟨_, rfl, q3, ?_⟩
            rw [d3]
            simp [Opd.cell?]
          | inr c =>
            refine if_t str_is_str ?_
            refine ⟨_, rfl, .inl ⟨rfl, _, SqL.of d3⟩, _, rfl, b, _, _, _, rfl, rfl, SqT.of hb3, at1 _ _ _, D, _, _, rfl, rfl, d3, by rw [List.length_map, sizeLine_eq]; omega, ?_⟩
            refine ⟨_, rfl, q3.at rfl, ?_⟩
            rw [upd_same, List.map_append]
            rfl
    · rintro σ H3 ⟨v, rfl, q3, d3⟩
      have s3 : Same H H3 := fun b o hb => q3 _ _ (fun e => by rw [e, nD] at hb; cases hb) (s2 _ _ (s1 _ _ hb))
      rw [lx, List.take_length] at d3
      have lf : (z.deed.opds.filterMap Opd.cell?).length ≤ 2 := Nat.le_trans (List.length_filterMap_le _ _) l2
      have d4 : H3 D = some (.lst (((z.deed.opds.filterMap Opd.cell?).map Sum.inr : List Key).map kV)) := by
        rw [d3, List.map_map]
        rfl
      have ha3 := s3 _ _ ha
      refine ⟨_, rfl, D, _, rfl, SqL.of d4, by rw [List.length_map]; omega, ?_⟩
      refine ⟨_, rfl, a, _, _, _, rfl, rfl, SqT.of ha3, at2 _ _ _ _, ma, _, rfl, .inr (SqT.of (s3 _ _ hma)), _, _, rfl, rfl, ?_⟩
      have fin : ∀ b : Bool, b = z.deed.put? → ∀ i : Int, i = (if b = true then 1 else 0) → ∃ i1 j : Int, V.int (((dk ((z.deed.opds.filterMap Opd.cell?).map Sum.inr)).length : Nat) + ((ms.length : Nat) : Int)) = .int i1 ∧ V.int i = .int j ∧ Q (.int (i1 + j)) H3 := by
        rintro b rfl i rfl
        refine ⟨_, _, rfl, rfl, q_int (k H3 s3) ?_⟩
        rw [cells_len, lms]
        rfl
      obtain ⟨sst, sd, sm, sf⟩ := z
      cases sd with
      | set t v =>
        obtain ⟨b, xs, rfl, hb, h3⟩ := Da.tup.mp hdd
        obtain ⟨v1, r1, rfl, e1, h4⟩ := DaL.cons.mp h3
        obtain rfl := Da.str.mp e1
        obtain ⟨v2, r2, rfl, e4, h5⟩ := DaL.cons.mp h4
        have hb3 := s3 _ _ hb
        refine ⟨_, rfl, a, _, _, _, rfl, rfl, SqT.of ha3, at1 _ _ _, b, _, _, _, rfl, rfl, SqT.of hb3, at0 _ _, rfl, _, rfl, if_t (decide_eq_true rfl) ?_⟩
        refine ⟨_, rfl, a, _, _, _, rfl, rfl, SqT.of ha3, at1 _ _ _, b, _, _, _, rfl, rfl, SqT.of hb3, at1 _ _ _, ?_⟩
        cases t with
        | none =>
          obtain rfl := Da.none.mp e4
          have hk : Kd H3 .non "NoneType" := .non
          exact ⟨_, .ty "str", _, _, _, rfl, .ty "str", hk.ty, kit_str hk.mem, .inr ⟨_, rfl, fin _ rfl _ rfl⟩⟩
        | some key =>
          obtain rfl := Da.key (k := key) e4
          have hk := key_kd H3 key
          refine ⟨_, .ty "str", _, _, _, rfl, .ty "str", hk.ty, kit_str hk.mem, .inr ⟨_, rfl, fin _ ?_ _ rfl⟩⟩
          cases key <;> rfl
      | skip =>
        obtain ⟨b, xs, rfl, hb, h3⟩ := Da.tup.mp hdd
        obtain ⟨v1, r1, rfl, e1, h4⟩ := DaL.cons.mp h3
        obtain rfl := Da.str.mp e1
        exact ⟨_, rfl, a, _, _, _, rfl, rfl, SqT.of ha3, at1 _ _ _, b, _, _, _, rfl, rfl, SqT.of (s3 _ _ hb), at0 _ _, rfl, _, rfl, if_f (sne "skip" "set") (.inr ⟨_, rfl, fin false rfl _ rfl⟩)⟩
      | give o =>
        obtain ⟨b, xs, rfl, hb, h3⟩ := Da.tup.mp hdd
        obtain ⟨v1, r1, rfl, e1, h4⟩ := DaL.cons.mp h3
        obtain rfl := Da.str.mp e1
        exact ⟨_, rfl, a, _, _, _, rfl, rfl, SqT.of ha3, at1 _ _ _, b, _, _, _, rfl, rfl, SqT.of (s3 _ _ hb), at0 _ _, rfl, _, rfl, if_f (sne "give" "set") (.inr ⟨_, rfl, fin false rfl _ rfl⟩)⟩
      | test pr bb =>
        obtain ⟨b, xs, rfl, hb, h3⟩ := Da.tup.mp hdd
        obtain ⟨v1, r1, rfl, e1, h4⟩ := DaL.cons.mp h3
        obtain rfl := Da.str.mp e1
        exact ⟨_, rfl, a, _, _, _, rfl, rfl, SqT.of ha3, at1 _ _ _, b, _, _, _, rfl, rfl, SqT.of (s3 _ _ hb), at0 _ _, rfl, _, rfl, if_f (sne "test" "set") (.inr ⟨_, rfl, fin false rfl _ rfl⟩)⟩
/-! ready -/
def spReady : Sp := fun vs H Q _ => ∃ (a d : Addr) (pt : Int) (h : Held) (xs : List V) (ss : List Sp1), vs = [.ref a, .int pt, .ref d] ∧ H a = some (.lst xs) ∧ DaL H (ss.map Sp1.d) xs ∧ H d = some (.dK (hv h)) ∧ ss.length ≤ 1000 ∧
  (ready ss pt h = none → ∀ H', Same H H' → Q .non H') ∧ ∀ s x, ready ss pt h = some s → s ∈ ss → ∀ H', Same H H' → Da H' s.d x → Q x H'
abbrev nRe : List Str := ["_law_steps", "_law_point", "_law_held", "_law_step"]
theorem sc_ready : FnScope nRe ["_law_steps", "_law_point", "_law_held"] (defScope s__law_ready) := ⟨rfl, rfl, rfl, by decide +kernel, rfl, by decide +kernel, by decide +kernel⟩
theorem ready_take {ss : List Sp1} {pt : Int} {h : Held} {i : Nat} {s : Sp1} (hi : ss[i]? = some s) (hn : ready (ss.take i) pt h = none) : ready (ss.take (i + 1)) pt h = if readyB pt h s = true then some s else none := by
  have e : ss.take (i + 1) = ss.take i ++ [s] := by
    rw [List.take_add_one, hi]
    rfl
  unfold ready at hn ⊢
  rw [e, List.find?_append, hn]
  simp only [Option.none_or, List.find?_cons, List.find?_nil]
  cases readyB pt h s <;> rfl
theorem ready_pre {ss : List Sp1} {pt : Int} {h : Held} {i : Nat} {s : Sp1} (e : ready (ss.take i) pt h = some s) : ready ss pt h = some s := by
  have q : ss = ss.take i ++ ss.drop i := (List.take_append_drop i ss).symm
  unfold ready at e ⊢
  rw [q, List.find?_append, e]
  rfl
theorem ca_ready (T : Tx K mg) : Ca P w K mg base CX0 3 "_law_ready" spReady := by
  refine ca0 T.f_q_ready T.m_q_ready sc_ready (fun _ _ _ _ _ _ us hl => match us, hl with | [_, _, _], _ => rfl) (fun vs H Q E h => ?_) (fun cdv A outer s H vs Q E hr h => ?_)
  · obtain ⟨a, d, pt, h, xs, ss, rfl, _⟩ := h
    rfl
  · obtain ⟨a, d, pt, h, xs, ss, rfl, ha, hx, hh, hl, k1, k2⟩ := h
    have c1 := ca_q_pair_now (P := P) (w := w) (base := base) T
    refine ⟨_, pss_cons (ps_for PassesOwn.never rfl (pi_list (pv 0)) (pg_name (i := 3) sc_ready.nd rfl (Or.inl rfl))
        (pss_one (ps_if (PW.pt (pw_and (pt_cmpR op_eq (pe_ix ix_tup (pv 3) pe_int (fun _ _ => rfl)) (pv 1) (nomark _)) (pw_and1 (PW.pt (pw_or (pt_cmpR op_ne (pe_ix ix_tup (pe_ix ix_tup (pv 3) pe_int (fun _ _ => rfl)) pe_int (fun _ _ => rfl)) pe_str (nomark _))
            (pw_or1 (pt_cmpR op_eq (pe_ca c1 hr (pa_cons (pe_ix ix_tup (pe_ix ix_tup (pv 3) pe_int (fun _ _ => rfl)) pe_int (fun _ _ => rfl)) (pa_cons (pv 2) pa_nil))) (pe_ix ix_tup (pe_ix ix_tup (pv 3) pe_int (fun _ _ => rfl)) pe_int (fun _ _ => rfl)) (nomark _))))))))
          (pss_one (ps_ret (pv 3))) pss_nil)))
      (pss_one (ps_ret pe_non)), ?_⟩
    have lx := hx.length
    rw [List.length_map] at lx
    refine ⟨_, rfl, a, rfl, ⟨_, SqL.of ha⟩, for_list (K := K) (a := a) (xs := xs) (fun i σ H2 => ∃ v, σ = [some (.ref a), some (.int pt), some (.ref d), v] ∧ Same H H2 ∧ ready (ss.take i) pt h = none)
      ⟨none, rfl, Same.refl _, rfl⟩ (fun i σ H2 _ ⟨_, _, q, _⟩ => SqL.of (q _ _ ha)) ?_ ?_⟩
    · rintro i x σ H2 hi ⟨v, rfl, s2, hn⟩
      obtain ⟨d', h1, h2⟩ := (hx.kp (Kp.of s2)).get hi
      rw [List.getElem?_map] at h1
      cases qs : ss[i]? with
      | none =>
        rw [qs] at h1
        cases h1
      | some z =>
        rw [qs] at h1
        cases h1
        have er := ready_take qs hn
        obtain ⟨b, dv, mv, rfl, hb, hdd, _⟩ := step_da h2
        have yes : ∀ H3, Same H2 H3 → readyB pt h z = true → Q (.ref b) H3 := fun H3 s3 e => by
          rw [e, if_pos rfl] at er
          exact k2 z (.ref b) (ready_pre er) (List.mem_of_getElem? qs) H3 (s2.trans s3) (h2.kp (Kp.of s3))
        have no : readyB pt h z = false → ready (ss.take (i + 1)) pt h = none := fun e => by
          rw [er, e]
          rfl
        refine ⟨_, rfl, b, _, _, _, rfl, rfl, SqT.of hb, at0 _ _, _, rfl, rfl, _, rfl, ?_⟩
        have ei : decide (V.int z.start = V.int pt) = decide (z.start = pt) := by
          by_cases e : z.start = pt
          · rw [e, decide_eq_true rfl, decide_eq_true rfl]
          · rw [decide_eq_false e, decide_eq_false fun q => e (V.int.inj q)]
        rw [ei]
        refine if_b (fun cs => ?_) fun cs => ?_
        · have eB : readyB pt h z = z.deed.gone h := by
            unfold readyB
            rw [cs, Bool.true_and]
          obtain ⟨sst, sd, sm, sf⟩ := z
          cases sd with
          | set t v' =>
            obtain ⟨e, ys, rfl, he, h4⟩ := Da.tup.mp hdd
            obtain ⟨v1, r1, rfl, e1, h5⟩ := DaL.cons.mp h4
            obtain rfl := Da.str.mp e1
            exact ⟨_, rfl, b, _, _, _, rfl, rfl, SqT.of hb, at1 _ _ _, e, _, _, _, rfl, rfl, SqT.of he, at0 _ _, rfl, _, rfl, if_t (by rw [sne "set" "test"] <;> rfl) (if_t rfl ⟨_, rfl, yes H2 (Same.refl _) (eB.trans rfl)⟩)⟩
          | skip =>
            obtain ⟨e, ys, rfl, he, h4⟩ := Da.tup.mp hdd
            obtain ⟨v1, r1, rfl, e1, h5⟩ := DaL.cons.mp h4
            obtain rfl := Da.str.mp e1
            exact ⟨_, rfl, b, _, _, _, rfl, rfl, SqT.of hb, at1 _ _ _, e, _, _, _, rfl, rfl, SqT.of he, at0 _ _, rfl, _, rfl, if_t (by rw [sne "skip" "test"] <;> rfl) (if_t rfl ⟨_, rfl, yes H2 (Same.refl _) (eB.trans rfl)⟩)⟩
          | give o =>
            obtain ⟨e, ys, rfl, he, h4⟩ := Da.tup.mp hdd
            obtain ⟨v1, r1, rfl, e1, h5⟩ := DaL.cons.mp h4
            obtain rfl := Da.str.mp e1
            exact ⟨_, rfl, b, _, _, _, rfl, rfl, SqT.of hb, at1 _ _ _, e, _, _, _, rfl, rfl, SqT.of he, at0 _ _, rfl, _, rfl, if_t (by rw [sne "give" "test"] <;> rfl) (if_t rfl ⟨_, rfl, yes H2 (Same.refl _) (eB.trans rfl)⟩)⟩
          | test pr bb =>
            obtain ⟨e, ys, rfl, he, h4⟩ := Da.tup.mp hdd
            obtain ⟨v1, r1, rfl, e1, h5⟩ := DaL.cons.mp h4
            obtain rfl := Da.str.mp e1
            obtain ⟨v2, r2, rfl, e2, h6⟩ := DaL.cons.mp h5
            obtain ⟨v3, r3, rfl, e3, h7⟩ := DaL.cons.mp h6
            obtain rfl := Da.bool.mp e3
            refine ⟨_, rfl, b, _, _, _, rfl, rfl, SqT.of hb, at1 _ _ _, e, _, _, _, rfl, rfl, SqT.of he, at0 _ _, rfl, _, rfl, if_f (by rw [decide_eq_true rfl] <;> rfl) ?_⟩
            refine ⟨_, rfl, b, _, _, _, rfl, rfl, SqT.of hb, at1 _ _ _, e, _, _, _, rfl, rfl, SqT.of he, at1 _ _ _, _, rfl, v2, pr, d, h, rfl, e2, s2 _ _ hh, fun H3 s3 => ?_⟩
            refine ⟨_, rfl, b, _, _, _, rfl, rfl, SqT.of (s3 _ _ hb), at1 _ _ _, e, _, _, _, rfl, rfl, SqT.of (s3 _ _ he), at2 _ _ _ _, rfl, _, rfl, ?_⟩
            have eb : decide (V.bl (pr.now h) = V.bl bb) = (pr.now h == bb) := by
              cases pr.now h <;> cases bb <;> decide
            rw [eb]
            refine if_b (fun cb => ?_) fun cb => ?_
            · exact ⟨_, rfl, yes H3 s3 (eB.trans cb)⟩
            · exact ⟨_, rfl, s2.trans s3, no (eB.trans cb)⟩
        · refine if_f rfl ⟨_, rfl, s2, no ?_⟩
          unfold readyB
          rw [cs]
          rfl
    · rintro σ H2 ⟨v, rfl, s2, hn⟩
      rw [lx, List.take_of_length_le (Nat.le_refl _)] at hn
      exact k1 hn H2 s2
end
end K48

namespace K48
open PySem PySem.Spec PyProof.Rows L2
/-- refs to pairs of a place and an int, lists or tuples aside: tuples -/
def PrsT (H : Hp) (xs : List V) (h : Held) : Prop := xs.length = h.length ∧ ∀ (i : Nat) (p : Key × Int), h[i]? = some p → ∃ t, xs[i]? = some (.ref t) ∧ H t = some (.tup [kV p.1, .int p.2])
theorem PrsT.kp {H H' : Hp} {xs : List V} {h : Held} (e : Kp H H') (p : PrsT H xs h) : PrsT H' xs h := ⟨p.1, fun i q hq => let ⟨t, h1, h2⟩ := p.2 i q hq; ⟨t, h1, e.t _ _ h2⟩⟩
theorem prs_paired {K : PySem.W.Frag} {H : Hp} : ∀ {h : Held} {xs : List V}, PrsT H xs h → ∃ ps : List Addr, xs = ps.map V.ref ∧ Paired (fun (p : Addr) (kv : Key × V) => SqT K H p [kV kv.1, kv.2]) ps (hv h)
  | [], xs, p => by
    have : xs = [] := List.length_eq_zero_iff.mp p.1
    subst this
    exact ⟨[], rfl, .nil⟩
  | q :: h, xs, p => by
    obtain ⟨t, h1, h2⟩ := p.2 0 q rfl
    cases xs with
    | nil => simp at h1
    | cons x xs =>
      simp at h1
      subst h1
      obtain ⟨ps, e, r⟩ := prs_paired (h := h) (xs := xs) ⟨by simpa using p.1, fun i q' hq => by
        obtain ⟨t', g1, g2⟩ := p.2 (i + 1) q' (by simpa using hq)
        exact ⟨t', by simpa using g1, g2⟩⟩
      exact ⟨t :: ps, by rw [e]; rfl, .cons (SqT.of h2) r⟩
theorem merge_hv : ∀ (h g : Held), mergeK (hv g) (hv h) = hv (putAll g h)
  | [], g => rfl
  | p :: h, g => by
    show mergeK (putK (hv g) p.1 (.int p.2)) (hv h) = hv (putAll (put g p.1 p.2) h)
    rw [putK_hv, merge_hv h]
theorem merge_all {h : Held} (n : (h.map (·.1)).Nodup) : mergeK [] (hv h) = hv h := by
  have e := merge_hv h []
  rw [putAll_all h [] (by simpa using n)] at e
  exact e
section
variable {P : Program} {w : World} {K : PySem.W.Frag} {mg : Str → Option Value} {base : Heap}
/-! driven -/
def spDriven : Sp := fun vs H Q _ => ∃ (a b : Addr) (n : Nat) (xs ys : List V) (ss : List Sp1) (h : Held), vs = [.ref a, .ref b, .int n] ∧ H a = some (.lst xs) ∧ DaL H (ss.map Sp1.d) xs ∧ StepsOk ss ∧ H b = some (.lst ys) ∧ PrsT H ys h ∧ (h.map (·.1)).Nodup ∧ h.length ≤ 1000 ∧ n ≤ 100 ∧
  ∀ H' q d, Same H H' → H' q = some (.tup [.int (drive ss n (run0 h)).point, .ref d, .int (drive ss n (run0 h)).turns, .int (drive ss n (run0 h)).pieces, resV (drive ss n (run0 h)).value]) → H' d = some (.dK (hv (drive ss n (run0 h)).held)) → Q (.ref q) H'
abbrev nDv : List Str := ["_law_steps", "_law_begin", "_law_turns", "_law_point", "_law_held", "_law_gone", "_law_spent", "_law_value", "_law_lap", "_law_step"]
theorem sc_driven : FnScope nDv ["_law_steps", "_law_begin", "_law_turns"] (defScope s__law_driven) := ⟨rfl, rfl, rfl, by decide +kernel, rfl, by decide +kernel, by decide +kernel⟩
theorem ca_driven (T : Tx K mg) : Ca P w K mg base CX0 4 "_law_driven" spDriven := by
  refine ca0 T.f_q_driven T.m_q_driven sc_driven (fun _ _ _ _ _ _ us hl => match us, hl with | [_, _, _], _ => rfl) (fun vs H Q E h => ?_) (fun cdv A outer s H vs Q E hr h => ?_)
  · obtain ⟨a, b, n, xs, ys, ss, h, rfl, _⟩ := h
    rfl
  · obtain ⟨a, b, n, xs, ys, ss, h, rfl, ha, hx, hok, hb, hy, nd, hl, hn, k⟩ := h
    have c1 := ca_ready (P := P) (w := w) (base := base) T
    have c2 := ca_q_operand_now (P := P) (w := w) (base := base) T
    have c3 := ca_behind (P := P) (w := w) (base := base) T
    have c4 := ca_step_count (P := P) (w := w) (base := base) T
    refine ⟨_, pss_cons (ps_asg (pe_tup (pa_cons pe_int (pa_cons (pe_callTy (call_dictP rfl) (by rfl) T.z_dict (by decide +kernel) (pa_cons (pv 1) pa_nil)) (pa_cons pe_int (pa_cons pe_int (pa_cons pe_non pa_nil))))))
        (pg_tup (by rfl) (pgs_cons (pg_name (i := 3) sc_driven.nd rfl (Or.inl rfl)) (pgs_cons (pg_name (i := 4) sc_driven.nd rfl (Or.inl rfl)) (pgs_cons (pg_name (i := 5) sc_driven.nd rfl (Or.inl rfl)) (pgs_cons (pg_name (i := 6) sc_driven.nd rfl (Or.inl rfl)) (pgs_cons (pg_name (i := 7) sc_driven.nd rfl (Or.inl rfl)) pgs_nil)))))))
      (pss_cons (ps_for PassesOwn.never rfl (pi_range1 (by rfl) T.z_range (pa_cons (pv 2) pa_nil)) (pg_name (i := 8) sc_driven.nd rfl (Or.inl rfl))
        (pss_cons (ps_set (i := 9) sc_driven.nd rfl (Or.inl rfl) (pe_ca c1 hr (pa_cons (pv 0) (pa_cons (pv 3) (pa_cons (pv 4) pa_nil)))))
        (pss_cons (ps_if (PW.pt (pw_or (pt_cmpR op_isN (pv 9) pe_non (nomark _)) (pw_or1 (pt_cmpR op_notN (pv 7) pe_non (nomark _))))) (pss_one ps_break) pss_nil)
        (C8.pss_cut (ps_if (pt_cmpR op_eq (pe_ix ix_tup (pe_ix ix_tup (pv 9) pe_int (fun _ _ => rfl)) pe_int (fun _ _ => rfl)) pe_str (nomark _)) (pss_one (ps_set (i := 7) sc_driven.nd rfl (Or.inl rfl) (pe_ca c2 hr (pa_cons (pe_ix ix_tup (pe_ix ix_tup (pv 9) pe_int (fun _ _ => rfl)) pe_int (fun _ _ => rfl)) (pa_cons (pv 4) pa_nil))))) pss_nil)
        (pss_cons (ps_par (i := 4) (j := 3) (by rfl) sc_driven.nd rfl rfl (by decide) rfl rfl (pa_cons (pe_ca c3 hr (pa_cons (pv 9) (pa_cons (pv 4) pa_nil))) (pa_cons (pe_ix ix_tup (pv 9) pe_int (fun _ _ => rfl)) pa_nil)) (by rfl))
        (pss_one (ps_par (i := 5) (j := 6) (by rfl) sc_driven.nd rfl rfl (by decide) rfl rfl (pa_cons (pe_op op_add (pv 5) pe_int) (pa_cons (pe_op op_add (pv 6) (pe_ca c4 hr (pa_cons (pv 9) pa_nil))) pa_nil)) (by rfl))))))))
      (pss_one (ps_ret (pe_tup (pa_cons (pv 3) (pa_cons (pv 4) (pa_cons (pv 5) (pa_cons (pv 6) (pa_cons (pv 7) pa_nil))))))))), ?_⟩
    obtain ⟨ps, rfl, hps⟩ := prs_paired (K := K) hy
    refine ⟨_, rfl, b, ps, hv h, rfl, SqL.of hb, hps, fun d nd2 => ?_⟩
    rw [merge_all nd]
    have s1 := same_new (o := .dK (hv h)) nd2
    refine ⟨(by rw [sizeLine_eq]; show 5 ≤ _; omega), fun t nt => ?_⟩
    have s2 := same_upd (o := .tup [.int 0, .ref d, .int 0, .int 0, .non]) s1 (s1.free nt)
    have dt : d ≠ t := ne_of_none upd_same nt
    refine ⟨t, _, rfl, SqT.of upd_same, rfl, _, _, rfl, _, _, rfl, _, _, rfl, _, _, rfl, _, _, rfl, rfl, ?_⟩
    refine ⟨_, rfl, _, rfl, by omega, by omega, ?_⟩
    rw [Int.toNat_natCast]
    have lx := hx.length
    rw [List.length_map] at lx
    have las := hok.l
    refine for_range (fun i σ H2 => ∃ (r : Run) (d' : Addr) (v8 v9 : Option V), σ = [some (.ref a), some (.ref b), some (.int n), some (.int r.point), some (.ref d'), some (.int r.turns), some (.int r.pieces), some (resV r.value), v8, v9] ∧ Same H H2 ∧
        drive ss (n - i) r = drive ss n (run0 h) ∧ H2 d' = some (.dK (hv r.held)) ∧ r.held.length + 101 * (n - i) ≤ h.length + 101 * n)
      ⟨run0 h, d, none, none, rfl, s2, rfl, by rw [upd_ne dt]; exact upd_same, Nat.le_refl _⟩ ?_ ?_
    · rintro i σ H2 hi ⟨r, d', v8, v9, rfl, s3, hdr, hd', hlen⟩
      obtain ⟨m, em⟩ : ∃ m, n - i = m + 1 := ⟨n - i - 1, by omega⟩
      rw [em] at hdr
      have fin : ∀ H3, Same H2 H3 → drive ss (m + 1) r = r → ∀ (v8 v9 : Option V), ∀ Qr : V → Hp → Prop, (∀ q d H', Same H H' → H' q = some (.tup [.int (drive ss n (run0 h)).point, .ref d, .int (drive ss n (run0 h)).turns, .int (drive ss n (run0 h)).pieces, resV (drive ss n (run0 h)).value]) → H' d = some (.dK (hv (drive ss n (run0 h)).held)) → Qr (.ref q) H') →
          tRet (tTup (tCons (tVar 3) (tCons (tVar 4) (tCons (tVar 5) (tCons (tVar 6) (tCons (tVar 7) tNil)))))) { nx := fun _ _ => False, rt := Qr } [some (.ref a), some (.ref b), some (.int n), some (.int r.point), some (.ref d'), some (.int r.turns), some (.int r.pieces), some (resV r.value), v8, v9] H3 := by
        intro H3 s4 e v8 v9 Qr kk
        refine ⟨_, rfl, _, rfl, _, rfl, _, rfl, _, rfl, (by rw [sizeLine_eq]; show 5 ≤ _; omega), fun q nq => ?_⟩
        have s5 := same_new (o := .tup [.int r.point, .ref d', .int r.turns, .int r.pieces, resV r.value]) nq
        refine kk q d' _ (s3.trans (s4.trans s5)) ?_ ?_
        · rw [← hdr, e]
          exact upd_same
        · rw [← hdr, e]
          exact s5 _ _ (s4 _ _ hd')
      refine ⟨_, rfl, _, rfl, _, rfl, a, d', r.point, r.held, xs, ss, rfl, s3 _ _ ha, hx.kp (Kp.of s3), hd', by omega, fun hn0 H3 s4 => ?_, fun z x hz hzm H3 s4 hzx => ?_⟩
      · refine ⟨_, rfl, rfl, _, rfl, if_t rfl (if_t rfl ?_)⟩
        exact fin H3 s4 (drive_stop hn0) _ _ Q fun q d2 H' => k H' q d2
      · have hzok := hok.m z hzm
        obtain ⟨zb, dv, mv, rfl, hzb, hdd, hmv⟩ := step_da hzx
        refine ⟨_, rfl, rfl, _, rfl, if_f rfl ⟨_, rfl, rfl, _, rfl, ?_⟩⟩
        cases hval : r.value with
        | some i2 =>
          refine if_t rfl ?_
          have := fin H3 s4 (drive_val (by rw [hval]; intro q; cases q)) (some (.int (0 + (i : Int)))) (some (.ref zb)) Q fun q d2 H' => k H' q d2
          rw [hval] at this
          exact this
        | none =>
          refine if_f rfl ?_
          rw [drive_step hval hz] at hdr
          have s34 := s3.trans s4
          have hd3 := s4 _ _ hd'
          refine ⟨fun σ' H' => σ' = [some (.ref a), some (.ref b), some (.int n), some (.int r.point), some (.ref d'), some (.int r.turns), some (.int r.pieces), some (resV (z.deed.gives r.held)), some (.int (0 + (i : Int))), some (.ref zb)] ∧ H' = H3, ?_, ?_⟩
          · obtain ⟨sst, sd, sm, sf⟩ := z
            cases sd with
            | give o =>
              obtain ⟨e, ys, rfl, he, h4⟩ := Da.tup.mp hdd
              obtain ⟨v1, r1, rfl, e1, h5⟩ := DaL.cons.mp h4
              obtain rfl := Da.str.mp e1
              obtain ⟨v2, r2, rfl, e2, h6⟩ := DaL.cons.mp h5
              refine ⟨_, rfl, zb, _, _, _, rfl, rfl, SqT.of hzb, at1 _ _ _, e, _, _, _, rfl, rfl, SqT.of he, at0 _ _, rfl, _, rfl, if_t (decide_eq_true rfl) ?_⟩
              exact ⟨_, rfl, zb, _, _, _, rfl, rfl, SqT.of hzb, at1 _ _ _, e, _, _, _, rfl, rfl, SqT.of he, at1 _ _ _, _, rfl, v2, o, d', r.held, rfl, e2, hd3, rfl, rfl⟩
            | set t' v' =>
              obtain ⟨e, ys, rfl, he, h4⟩ := Da.tup.mp hdd
              obtain ⟨v1, r1, rfl, e1, h5⟩ := DaL.cons.mp h4
              obtain rfl := Da.str.mp e1
              exact ⟨_, rfl, zb, _, _, _, rfl, rfl, SqT.of hzb, at1 _ _ _, e, _, _, _, rfl, rfl, SqT.of he, at0 _ _, rfl, _, rfl, if_f (sne "set" "give") ⟨rfl, rfl⟩⟩
            | skip =>
              obtain ⟨e, ys, rfl, he, h4⟩ := Da.tup.mp hdd
              obtain ⟨v1, r1, rfl, e1, h5⟩ := DaL.cons.mp h4
              obtain rfl := Da.str.mp e1
              exact ⟨_, rfl, zb, _, _, _, rfl, rfl, SqT.of hzb, at1 _ _ _, e, _, _, _, rfl, rfl, SqT.of he, at0 _ _, rfl, _, rfl, if_f (sne "skip" "give") ⟨rfl, rfl⟩⟩
            | test pr bb =>
              obtain ⟨e, ys, rfl, he, h4⟩ := Da.tup.mp hdd
              obtain ⟨v1, r1, rfl, e1, h5⟩ := DaL.cons.mp h4
              obtain rfl := Da.str.mp e1
              exact ⟨_, rfl, zb, _, _, _, rfl, rfl, SqT.of hzb, at1 _ _ _, e, _, _, _, rfl, rfl, SqT.of he, at0 _ _, rfl, _, rfl, if_f (sne "test" "give") ⟨rfl, rfl⟩⟩
          · rintro σ' H' ⟨rfl, rfl⟩
            refine ⟨_, rfl, _, rfl, .ref zb, d', z, r.held, rfl, hzx, hzok, hd3, by omega, fun H5 f s5 hf => ?_⟩
            refine ⟨_, rfl, zb, _, _, _, rfl, rfl, SqT.of (s5 _ _ hzb), at3 _ _ _ _ _, _, _, rfl, ?_⟩
            refine ⟨_, rfl, _, _, rfl, rfl, _, rfl, _, rfl, .ref zb, z, rfl, hzx.kp (Kp.of s5), hzok.m, fun H6 s6 => ⟨_, _, rfl, rfl, _, _, rfl, ?_⟩⟩
            refine ⟨r.next z, f, _, _, rfl, s34.trans (s5.trans s6), ?_, s6 _ _ hf, ?_⟩
            · have e2 : n - (i + 1) = m := by omega
              rw [e2]
              exact hdr
            · have := behind_len z r.held hzok.m
              show (behind z r.held).length + 101 * (n - (i + 1)) ≤ _
              omega
    · rintro σ H2 ⟨r, d', v8, v9, rfl, s3, hdr, hd', hlen⟩
      rw [Nat.sub_self] at hdr
      have hdr' : r = drive ss n (run0 h) := hdr
      refine ⟨_, rfl, _, rfl, _, rfl, _, rfl, _, rfl, (by rw [sizeLine_eq]; show 5 ≤ _; omega), fun q nq => ?_⟩
      have s5 := same_new (o := .tup [.int r.point, .ref d', .int r.turns, .int r.pieces, resV r.value]) nq
      refine k _ q d' (s3.trans s5) ?_ ?_
      · rw [← hdr']
        exact upd_same
      · rw [← hdr']
        exact s5 _ _ hd'
end
end K48

namespace K48
open PySem PySem.Spec PyProof.Rows L2
section
variable {P : Program} {w : World} {K : PySem.W.Frag} {mg : Str → Option Value} {base : Heap}
/-! in_order -/
abbrev nIO2 : List Str := ["_law_places", "_law_numbers", "_law_place"]
theorem sc_q_in_order : FnScope nIO2 ["_law_places"] (defScope s__law_in_order) := ⟨rfl, rfl, rfl, by decide +kernel, rfl, by decide +kernel, by decide +kernel⟩
theorem ca_q_in_order (T : Tx K mg) : Ca P w K mg base CX0 2 "_law_in_order" (spInOrder K) := by
  refine ca0 T.f_q_in_order T.m_q_in_order sc_q_in_order (fun _ _ _ _ _ _ us hl => match us, hl with | [_], _ => rfl) (fun vs H Q E h => ?_) (fun cdv A outer s H vs Q E hr h => ?_)
  · obtain ⟨a, ks, rfl, _⟩ := h
    rfl
  · obtain ⟨a, ks, rfl, ha, hlen, k⟩ := h
    refine ⟨_, pss_cons (ps_set (i := 1) sc_q_in_order.nd rfl (Or.inl rfl) (pe_callB cr_sortedI (by rfl) T.z_sorted (by decide +kernel) (pa_cons
        (pe_lc (own := [("_law_place", 2)]) (g := gName 2) (tt := tNot (tB (tCB (rIsi K) (tCons (tVar 2) (tCons (tC (.ty "str")) tNil))))) rfl sc_q_in_order.nd (pi_list (pv 0)) (blkOk_by (N := nIO2) (sc := defScope s__law_in_order) (by decide +kernel)) (fun _ _ _ _ _ => pg_name (i := 2) sc_q_in_order.nd rfl (Or.inl rfl))
          (fun _ _ _ _ _ => pts_one (pt_not (pt_val (pe_isi "str" T.z_isinstance T.z_str (by decide +kernel) (pv 2))))) (fun _ _ _ _ _ => pv 2)) pa_nil)))
      (pss_one (ps_ret (pe_op op_cat (pv 1) (pe_callB cr_sortedS (by rfl) T.z_sorted (by decide +kernel) (pa_cons
        (pe_lc (own := [("_law_place", 2)]) (g := gName 2) (tt := tB (tCB (rIsi K) (tCons (tVar 2) (tCons (tC (.ty "str")) tNil)))) rfl sc_q_in_order.nd (pi_list (pv 0)) (blkOk_by (N := nIO2) (sc := defScope s__law_in_order) (by decide +kernel)) (fun _ _ _ _ _ => pg_name (i := 2) sc_q_in_order.nd rfl (Or.inl rfl))
          (fun _ _ _ _ _ => pts_one (pt_val (pe_isi "str" T.z_isinstance T.z_str (by decide +kernel) (pv 2)))) (fun _ _ _ _ _ => pv 2)) pa_nil))))), ?_⟩
    refine ⟨_, rfl, a, rfl, ⟨_, SqL.of ha⟩, fun D nD => ?_⟩
    refine lc_filt (K := K) (a := a) (xs := ks.map kV) (fun v => !isStrV v) (SqL.of ha) nD (by rw [List.length_map]; omega) (by show 2 < 3; omega) ?_ ?_
    · intro i x H2 hi s2 Q2 k2
      obtain ⟨key, _, rfl⟩ := key_at hi
      have hk := key_kd H2 key
      refine ⟨_, rfl, _, .ty "str", _, _, _, rfl, .ty "str", hk.ty, kit_str hk.mem, _, rfl, ?_⟩
      have e : decide (kkind key = "str") = isStrV (kV key) := by cases key <;> rfl
      rw [e]
      exact k2 _ (Same.refl _)
    · intro H2 s2 hD
      rw [filt_nstr] at hD
      refine ⟨D, _, rfl, SqL.of hD, fun ns p hp hs np => ?_⟩
      have s3 := same_upd (o := .lst (ns.map V.int)) s2 (s2.free np)
      refine ⟨_, rfl, _, rfl, a, rfl, ⟨_, SqL.of (s3 _ _ ha)⟩, fun D2 nD2 => ?_⟩
      refine lc_filt (K := K) (a := a) (xs := ks.map kV) isStrV (SqL.of (s3 _ _ ha)) nD2 (by rw [List.length_map]; omega) (by show 2 < 3; omega) ?_ ?_
      · intro i x H3 hi s4 Q2 k2
        obtain ⟨key, _, rfl⟩ := key_at hi
        have hk := key_kd H3 key
        refine ⟨_, rfl, _, .ty "str", _, _, _, rfl, .ty "str", hk.ty, kit_str hk.mem, _, rfl, ?_⟩
        have e : decide (kkind key = "str") = isStrV (kV key) := by cases key <;> rfl
        rw [e]
        exact k2 _ (Same.refl _)
      · intro H3 s4 hD2
        rw [filt_str] at hD2
        have l1 := strsK_len ks
        have l2 := intsK_len ks
        refine ⟨D2, _, rfl, SqL.of hD2, by omega, fun ss p2 hp2 hs2 np2 => ?_⟩
        have p1 : H3 p = some (.lst (ns.map V.int)) := s4 _ _ upd_same
        refine ⟨p, p2, _, _, rfl, rfl, by rw [upd_ne (ne_of_none p1 np2)]; exact p1, upd_same, ?_, fun p3 np3 => ?_⟩
        · rw [List.length_map, List.length_map, hp.length_eq, hp2.length_eq, sizeLine_eq]
          omega
        · have s5 := s3.trans s4
          have s6 := same_upd (o := .lst (ss.map V.str)) s5 (s5.free np2)
          exact k _ p3 (ns.map Sum.inl ++ ss.map Sum.inr) (same_upd s6 (s6.free np3)) ⟨ns, ss, rfl, hp, hs, hp2, hs2⟩ (by rw [mapK]; exact upd_same)
/-! held_row -/
def spHeldRow : Sp := fun vs H Q _ => ∃ (d : Addr) (h : Held), vs = [.ref d] ∧ H d = some (.dK (hv h)) ∧ h.length < 64 ∧ ∀ H' y l, Same H H' → OrdK (h.map (·.1)) l → Da H' (.tuple (rowOf l h)) y → Q y H'
abbrev nHR : List Str := ["_law_held", "_law_place"]
theorem sc_held_row : FnScope nHR ["_law_held"] (defScope s__law_held_row) := ⟨rfl, rfl, rfl, by decide +kernel, rfl, by decide +kernel, by decide +kernel⟩
theorem ca_held_row (T : Tx K mg) : Ca P w K mg base CX0 3 "_law_held_row" spHeldRow := by
  refine ca0 T.f_q_held_row T.m_q_held_row sc_held_row (fun _ _ _ _ _ _ us hl => match us, hl with | [_], _ => rfl) (fun vs H Q E h => ?_) (fun cdv A outer s H vs Q E hr h => ?_)
  · obtain ⟨d, h, rfl, _⟩ := h
    rfl
  · obtain ⟨D, h, rfl, h2, lh, g⟩ := h
    have c2 := ca_q_in_order (P := P) (w := w) (base := base) T
    refine ⟨_, pss_one (ps_ret (pe_callTy call_tuple_of (by rfl) T.z_tuple (by decide +kernel) (pa_cons
        (pe_lc (own := [("_law_place", 1)]) (g := gName 1) (te := tTup (tCons (tVar 1) (tCons (tDGet (tVar 0) (tVar 1)) tNil))) (tt := tTest (tOp rNe (tDGet (tVar 0) (tVar 1)) (tC (.int 0)))) rfl sc_held_row.nd (pi_list (pe_ca c2 hr (pa_cons (pe_callTy (call_list_dK rfl) (by rfl) T.z_list (by decide +kernel) (pa_cons (pv 0) pa_nil)) pa_nil))) (blkOk_by (N := nHR) (sc := defScope s__law_held_row) (by decide +kernel)) (fun _ _ _ _ _ => pg_name (i := 1) sc_held_row.nd rfl (Or.inl rfl))
          (fun _ _ _ _ _ => pts_one (pt_cmpR op_ne (pe_dget (hu_of hr) (pv 0) (pv 1) (fun _ _ => rfl)) pe_int (nomark _))) (fun _ _ _ _ _ => pe_tup (pa_cons (pv 1) (pa_cons (pe_dget (hu_of hr) (pv 0) (pv 1) (fun _ _ => rfl)) pa_nil)))) pa_nil))), ?_⟩
    refine ⟨_, rfl, D, _, rfl, h2, fun q nq => ?_⟩
    have s2 : Same H (upd H q (.lst ((hv h).map fun kv => kV kv.1))) := same_new nq
    have ek : ((hv h).map fun kv => kV kv.1) = (h.map (·.1)).map kV := by
      unfold hv
      rw [List.map_map, List.map_map]
      rfl
    refine ⟨q, h.map (·.1), rfl, by rw [← ek]; exact upd_same, by rw [List.length_map]; exact lh, fun H2 p l s3 ho hp => ?_⟩
    have s4 : Same H H2 := s2.trans s3
    have hD2 : H2 D = some (.dK (hv h)) := s4 _ _ h2
    have ll := ho.len
    rw [List.length_map] at ll
    refine ⟨p, rfl, ⟨_, SqL.of hp⟩, fun D2 nD2 => ?_⟩
    have hget : ∀ (i : Nat) (y : V), (l.map kV)[i]? = some y → ∃ k, l[i]? = some k ∧ y = kV k ∧ valV (hv h) k = some (.int (look h k)) := fun i y hi => by
      obtain ⟨k, h5, rfl⟩ := key_at hi
      refine ⟨k, h5, rfl, ?_⟩
      rw [valV_hv, look_in (ho.mem (List.mem_of_getElem? h5))]
      rfl
    refine lc_daL (K := K) (a := p) (xs := l.map kV) (bs := l.map fun k => !decide (look h k = 0)) (ds := l.map fun k => .tuple [kd k, .int (look h k)]) (SqL.of hp) (by rw [List.length_map, List.length_map]) (by rw [List.length_map, List.length_map]) nD2 (by rw [List.length_map]; omega) ?_ ?_ ?_
    · intro i y b H3 hi hb s5 Q2 k2
      obtain ⟨k, h5, rfl, h6⟩ := hget i y hi
      rw [List.getElem?_map, h5] at hb
      cases hb
      refine ⟨_, rfl, _, rfl, D, _, rfl, h6 ▸ DGet.k (s5 _ _ hD2), rfl, _, rfl, ?_⟩
      have ei : decide (V.int (look h k) = V.int 0) = decide (look h k = 0) := by
        by_cases e : look h k = 0
        · rw [e, decide_eq_true rfl, decide_eq_true rfl]
        · rw [decide_eq_false e, decide_eq_false fun q => e (V.int.inj q)]
      rw [ei]
      exact k2 H3 (Same.refl _)
    · intro i y d' H3 hi hd' _ s5 ⟨acc, hacc⟩ Q2 k2
      obtain ⟨k, h5, rfl, h6⟩ := hget i y hi
      rw [List.getElem?_map, h5] at hd'
      cases hd'
      refine ⟨_, rfl, _, rfl, _, rfl, D, _, rfl, h6 ▸ DGet.k (s5 _ _ hD2), (by show 2 ≤ sizeLine; decide), fun t nt => ?_⟩
      refine k2 _ _ (same_new nt) (Da.tup.mpr ⟨t, _, rfl, ?_, DaL.cons.mpr ⟨_, _, rfl, da_key _ k, DaL.cons.mpr ⟨_, _, rfl, Da.int.mpr rfl, DaL.nil.mpr rfl⟩⟩⟩)
      rw [off_ne (ne_of_none hacc nt).symm]
      exact upd_same
    · intro H3 acc s5 hacc hda
      refine ⟨D2, acc, rfl, .inl ⟨SqL.of hacc, fun t nt => ?_⟩⟩
      have s6 := same_new (o := .tup acc) nt
      refine g _ _ l (s4.trans (s5.trans s6)) ho ?_
      exact Da.tup.mpr ⟨t, acc, rfl, upd_same, hda.kp (off_kp.trans (Kp.of s6))⟩
end
end K48

namespace K48
open PySem PySem.Spec PyProof.Rows L2
/-! ### as_tuples leaves what is tuples alone -/
theorem asT_kd (k : Key) : asT (kd k) = kd k := by cases k <;> simp only [kd, asT]
theorem asT_opd (o : Opd) : asT o.d = o.d := by
  cases o with
  | pl k => simp only [Opd.d, asT, asTL, asT_kd]
  | num i => simp only [Opd.d, asT]
theorem asTL_opds : ∀ os : List Opd, asTL (os.map Opd.d) = os.map Opd.d
  | [] => rfl
  | o :: r => by rw [List.map_cons, asTL, asT_opd, asTL_opds r]
theorem asT_vl (v : Vl) : asT v.d = v.d := by simp only [Vl.d, asT, asTL, asTL_opds]
theorem asT_deed (d : Deed) : asT d.d = d.d := by
  cases d with
  | set t v => cases t <;> simp only [Deed.d, asT, asTL, asT_vl, tgd, asT_kd]
  | skip => simp only [Deed.d, asT, asTL]
  | give o => simp only [Deed.d, asT, asTL, asT_opd]
  | test p b => simp only [Deed.d, asT, asTL, Pr.d, asT_opd]
theorem asT_moves (ms : List (Key × Key)) : asT (.tuple (ms.map mvd)) = .tuple (ms.map mvd) := by
  have go : ∀ ms : List (Key × Key), asTL (ms.map mvd) = ms.map mvd := by
    intro ms
    induction ms with
    | nil => rfl
    | cons m r ih => rw [List.map_cons, asTL, ih, mvd, asT, asTL, asTL, asTL, asT_kd, asT_kd]
  rw [asT, go]
theorem StepAt.kt {C : Addr} {H H' : Hp} {a : Addr} {s : Sp1} (e : Kt H H') (h : StepAt C H a s) : StepAt C H' a s := by
  obtain ⟨dx, d, m, h1, h2, h3⟩ := h
  refine ⟨dx, d, m, e.i _ _ _ _ h1, ?_, ?_⟩
  · rw [← asT_deed] at h2 ⊢
    exact da_kt e h2
  · rw [← asT_moves] at h3 ⊢
    exact da_kt e h3
theorem kt_offK {H : Hp} {p : Addr} {kvs : List (Key × V)} (h : H p = some (.dK kvs)) : Kt H (off H p) := ⟨fun a xs q => by
  rw [off_ne (ne_of q h (by intro z; cases z))]
  exact q, fun a C dx fs q => by
  rw [off_ne (ne_of q h (by intro z; cases z))]
  exact q⟩
theorem kt_off_sx {H H' : Hp} {p : Addr} (e : Sx (· = p) H H') : Kt (off H p) (off H' p) := by
  have go : ∀ b o, off H p b = some o → off H' p b = some o := fun b o q => by
    by_cases z : b = p
    · rw [z, off_same] at q
      cases q
    · rw [off_ne z] at q ⊢
      exact e _ _ z q
  exact ⟨fun a xs q => go _ _ q, fun a C dx fs q => go _ _ q⟩
theorem kt_of_off {H : Hp} {p : Addr} : Kt (off H p) H := ⟨fun a xs q => off_sx (M := fun _ => False) a _ (fun z => z) q, fun a C dx fs q => off_sx (M := fun _ => False) a _ (fun z => z) q⟩
theorem Kt.trans {H H1 H2 : Hp} (a : Kt H H1) (b : Kt H1 H2) : Kt H H2 := ⟨fun c xs h => b.t c xs (a.t c xs h), fun c C dx fs h => b.i c C dx fs (a.i c C dx fs h)⟩
theorem PenOk.pd {n : Nat} {H : Hp} {p c : Addr} {ns : List Int} (h : PenOk n H p c ns) : ∃ kvs, H p = some (.dK kvs) := by
  obtain ⟨_, a, d, ct, f, h⟩ := h
  exact ⟨_, h.p⟩
/-! ### how deep data is -/
theorem fit_leaf {n : Nat} {d : PyData} (h : isRow d = false) : fit n d := by
  cases n with
  | zero => exact h
  | succ n =>
    intro ds e
    rcases e with rfl | rfl <;> cases h
theorem fit_up : ∀ {n : Nat} {d : PyData}, fit n d → fit (n + 1) d
  | 0, d, h => fit_leaf h
  | n + 1, d, h => fun ds e => ⟨(h ds e).1, fun x hx => fit_up ((h ds e).2 x hx)⟩
theorem fit_row {n : Nat} {ds : List PyData} (l : ds.length ≤ 1000) (h : ∀ e ∈ ds, fit n e) : fit (n + 1) (.tuple ds) ∧ fit (n + 1) (.list ds) :=
  ⟨fun es e => by rcases e with e | e <;> cases e; exact ⟨l, h⟩, fun es e => by rcases e with e | e <;> cases e; exact ⟨l, h⟩⟩
theorem fit_kd (n : Nat) (k : Key) : fit n (kd k) := fit_leaf (by cases k <;> rfl)
theorem fit_opd (n : Nat) (o : Opd) : fit (n + 1) o.d := by
  cases o with
  | pl k => exact (fit_row (by simp) fun e he => by
      simp only [List.mem_cons, List.not_mem_nil, or_false] at he
      rcases he with rfl | rfl
      · exact fit_leaf rfl
      · exact fit_kd n k).1
  | num i => exact fit_leaf rfl
theorem fit_vl (n : Nat) (v : Vl) : fit (n + 2) v.d := by
  refine (fit_row ?_ fun e he => ?_).1
  · have := (vl_opds v).2
    simp
    omega
  · rcases List.mem_cons.mp he with rfl | he
    · exact fit_leaf rfl
    · obtain ⟨o, _, rfl⟩ := List.mem_map.mp he
      exact fit_opd n o
def Deed.its : Deed → List PyData
  | .set t v => [.str "set", tgd t, v.d]
  | .skip => [.str "skip"]
  | .give o => [.str "give", o.d]
  | .test p b => [.str "test", p.d, .bool b]
theorem deed_its (d : Deed) : d.d = .tuple d.its := by cases d <;> rfl
theorem fit_its (d : Deed) : d.its.length ≤ 1000 ∧ ∀ e ∈ d.its, fit 3 e := by
  cases d with
  | set t v =>
    refine ⟨by simp [Deed.its], fun e he => ?_⟩
    simp only [Deed.its, List.mem_cons, List.not_mem_nil, or_false] at he
    rcases he with rfl | rfl | rfl
    · exact fit_leaf rfl
    · cases t with
      | none => exact fit_leaf rfl
      | some k => exact fit_kd 3 k
    · exact fit_vl 1 v
  | skip =>
    refine ⟨by simp [Deed.its], fun e he => ?_⟩
    simp only [Deed.its, List.mem_cons, List.not_mem_nil, or_false] at he
    subst he
    exact fit_leaf rfl
  | give o =>
    refine ⟨by simp [Deed.its], fun e he => ?_⟩
    simp only [Deed.its, List.mem_cons, List.not_mem_nil, or_false] at he
    rcases he with rfl | rfl
    · exact fit_leaf rfl
    · exact fit_opd 2 o
  | test p b =>
    refine ⟨by simp [Deed.its], fun e he => ?_⟩
    simp only [Deed.its, List.mem_cons, List.not_mem_nil, or_false] at he
    rcases he with rfl | rfl | rfl
    · exact fit_leaf rfl
    · refine (fit_row (by simp) fun e he => ?_).1
      simp only [List.mem_cons, List.not_mem_nil, or_false] at he
      rcases he with rfl | rfl | rfl
      · exact fit_leaf rfl
      · exact fit_opd 1 _
      · exact fit_opd 1 _
    · exact fit_leaf rfl
theorem asTL_its (d : Deed) : asTL d.its = d.its := by
  have e := asT_deed d
  rw [deed_its, asT] at e
  exact PyData.tuple.inj e
/-- a row of the items of data -/
theorem row_data {H : Hp} {b : Addr} {xs : List V} {ds : List PyData} (h : RowAt H b xs) (hx : DaL H ds xs) : ∃ d, (d = .list ds ∨ d = .tuple ds) ∧ Da H d (.ref b) := by
  rcases h with h | h
  · exact ⟨_, .inl rfl, Da.lst.mpr ⟨b, xs, rfl, h, hx⟩⟩
  · exact ⟨_, .inr rfl, Da.tup.mpr ⟨b, xs, rfl, h, hx⟩⟩
/-- rows of leaves -/
theorem rows_da {H : Hp} : ∀ {acc : List V} {ls : List (List PyData)}, acc.length = ls.length → (∀ l ∈ ls, l.length ≤ 1000 ∧ ∀ d ∈ l, isRow d = false) →
    (∀ (i : Nat) v, acc[i]? = some v → ∃ l t xs, ls[i]? = some l ∧ v = .ref t ∧ RowAt H t xs ∧ DaL H l xs) → ∃ es, DaL H es acc ∧ (∀ (i : Nat) e, es[i]? = some e → ∃ l, ls[i]? = some l ∧ (e = .list l ∨ e = .tuple l)) ∧ asTL es = ls.map PyData.tuple ∧ es.length = ls.length ∧ ∀ e ∈ es, fit 1 e
  | [], [], _, _, _ => ⟨[], DaL.nil.mpr rfl, fun i e h => by simp at h, rfl, rfl, fun e h => by simp at h⟩
  | v :: acc, l :: ls, hl, hf, h => by
    obtain ⟨l', t, xs, e1, rfl, h1, h2⟩ := h 0 v rfl
    cases e1
    obtain ⟨d, hd, hda⟩ := row_data h1 h2
    obtain ⟨es, g1, g2, g3, g4, g5⟩ := rows_da (acc := acc) (ls := ls) (by simpa using hl) (fun l hl => hf l (List.mem_cons_of_mem _ hl)) fun i v hv => by
      obtain ⟨l2, t2, xs2, q1, q2, q3, q4⟩ := h (i + 1) v (by simpa using hv)
      exact ⟨l2, t2, xs2, by simpa using q1, q2, q3, q4⟩
    have hl0 := hf l (List.mem_cons_self ..)
    have el : asTL l = l := by
      have : ∀ l : List PyData, (∀ d ∈ l, isRow d = false) → asTL l = l := by
        intro l
        induction l with
        | nil => intro _; rfl
        | cons d r ih =>
          intro hh
          rw [asTL, asT_leaf (hh d (List.mem_cons_self ..)), ih fun d hd => hh d (List.mem_cons_of_mem _ hd)]
      exact this l hl0.2
    refine ⟨d :: es, DaL.cons.mpr ⟨_, _, rfl, hda, g1⟩, fun i e he => ?_, ?_, by simpa using g4, fun e he => ?_⟩
    · cases i with
      | zero =>
        cases he
        exact ⟨l, rfl, hd⟩
      | succ i =>
        obtain ⟨l2, q1, q2⟩ := g2 i e (by simpa using he)
        exact ⟨l2, by simpa using q1, q2⟩
    · rw [asTL, g3, List.map_cons]
      congr 1
      rcases hd with rfl | rfl <;> rw [asT, el]
    · rcases List.mem_cons.mp he with rfl | he
      · have := fit_row (n := 0) hl0.1 fun e he => hl0.2 e he
        rcases hd with rfl | rfl
        · exact this.2
        · exact this.1
      · exact g5 e he
  | [], _ :: _, hl, _, _ => by simp at hl
  | _ :: _, [], hl, _, _ => by simp at hl
end K48

namespace K48
open PySem PySem.Spec PyProof.Rows L2
section
variable {P : Program} {w : World} {K : PySem.W.Frag} {mg : Str → Option Value} {base : Heap}
/-! made_step -/
def spMadeStep (C : Addr) : Sp := fun vs H Q _ => ∃ (p c : Addr) (ns : List Int) (n : Nat) (x : V) (s : Sp1), vs = [.ref p, x] ∧ PenOk n H p c ns ∧ n + 102 ≤ 1000000 ∧ Da H s.d x ∧ s.moves.length ≤ 100 ∧
  ∀ H' a, Sx (· = p) H H' → PenOk (n + 102) H' p c ns → StepAt C H' a s → Q (.ref a) H'
abbrev nMS : List Str := ["_law_pen_here", "_law_step", "_law_moves", "_law_pair"]
theorem sc_made_step : FnScope nMS ["_law_pen_here", "_law_step"] (defScope s__law_made_step) := ⟨rfl, rfl, rfl, by decide +kernel, rfl, by decide +kernel, by decide +kernel⟩
def RowO (p : Addr) (l : List V) (v : V) (H : Hp) : Prop := ∃ t, v = .ref t ∧ RowAt (off H p) t l
theorem off_off_sx {H H' : Hp} {p : Addr} (e : Sx (· = p) H H') : Same (off H p) (off H' p) := fun b o q => by
  by_cases z : b = p
  · rw [z, off_same] at q
    cases q
  · rw [off_ne z] at q ⊢
    exact e _ _ z q
theorem RowO.sx {p : Addr} {l : List V} {v : V} {H H' : Hp} (e : Sx (· = p) H H') (h : RowO p l v H) : RowO p l v H' := by
  obtain ⟨t, h1, h2⟩ := h
  exact ⟨t, h1, h2.same (off_off_sx e)⟩
/-- a row that listed gave, D aside -/
theorem rowO_of {p D b : Addr} {l : List V} {H2 H4 : Hp} {kvs : List (Key × V)} (h : RowN H2 H4 b l) (hp : H4 p = some (.dK kvs)) (hD : ∃ acc, H2 D = some (.lst acc)) (hD4 : ∃ acc, H4 D = some (.lst acc)) : RowO p l (.ref b) (off H4 D) := by
  obtain ⟨acc, hD⟩ := hD
  obtain ⟨acc4, hD4⟩ := hD4
  have bp : b ≠ p := by
    rcases h with h | ⟨h, _⟩
    · exact ne_of h hp (by intro z; cases z)
    · exact ne_of h hp (by intro z; cases z)
  have bD : b ≠ D := by
    rcases h with h | ⟨_, h⟩
    · exact ne_of h hD4 (by intro z; cases z)
    · intro z
      rw [z, hD] at h
      cases h
  refine ⟨b, rfl, ?_⟩
  unfold RowAt
  rw [off_ne bp, off_ne bD]
  exact h.row
theorem rowO_out {p D : Addr} {l : List V} {v : V} {H : Hp} (h : RowO p l v (off H D)) : ∃ t, v = .ref t ∧ RowAt H t l := by
  obtain ⟨t, h1, h2⟩ := h
  refine ⟨t, h1, h2.imp (fun q => ?_) fun q => ?_⟩
  · exact off_sx (M := fun _ => False) t _ (fun z => z) (off_sx (M := fun _ => False) t _ (fun z => z) q)
  · exact off_sx (M := fun _ => False) t _ (fun z => z) (off_sx (M := fun _ => False) t _ (fun z => z) q)
theorem da_kd {H : Hp} (k : Key) : Da H (kd k) (kV k) := da_key H k
theorem ca_made_step (T : Tx K mg) : Ca P w K mg base CX0 9 "_law_made_step" (spMadeStep (He.ga K "Step")) := by
  refine ca0 T.f_q_made_step T.m_q_made_step sc_made_step (fun _ _ _ _ _ _ us hl => match us, hl with | [_, _], _ => rfl) (fun vs H Q E h => ?_) (fun cdv A outer s H vs Q E hr h => ?_)
  · obtain ⟨p, c, ns, n, x, s, rfl, _⟩ := h
    rfl
  · obtain ⟨p, c, ns, n, x, z, rfl, hp, hn, hd, hlm, k⟩ := h
    have c1 := ca_listed (P := P) (w := w) (base := base) T
    have c2 := ma_Step (P := P) (w := w) (base := base) T
    refine ⟨_, pss_cons (ps_set (i := 2) sc_made_step.nd rfl (Or.inl rfl) (pe_ca c1 hr (pa_cons (pv 0) (pa_cons (pe_lc (own := [("_law_pair", 3)]) (g := gName 3) (te := tCall (spListed K) [] E0 (tCons (tVar 0) (tCons (tVar 3) tNil))) (tt := tYes) rfl sc_made_step.nd (pi_tup (pe_ix ix_tup (pv 1) pe_int (fun _ _ => rfl))) (blkOk_by (N := nMS) (sc := defScope s__law_made_step) (by decide +kernel))
          (fun _ _ _ _ _ => pg_name (i := 3) sc_made_step.nd rfl (Or.inl rfl)) (fun _ _ _ _ _ => pts_nil) (fun _ _ _ _ _ => pe_ca c1 hr (pa_cons (pv 0) (pa_cons (pv 3) pa_nil)))) pa_nil))))
      (pss_one (ps_ret (pe_ma c2 hr (pa_cons (pe_ix ix_tup (pv 1) pe_int (fun _ _ => rfl)) (pa_cons (pe_ca c1 hr (pa_cons (pv 0) (pa_cons (pe_ix ix_tup (pv 1) pe_int (fun _ _ => rfl)) pa_nil))) (pa_cons (pv 2) (pa_cons (pe_ix ix_tup (pv 1) pe_int (fun _ _ => rfl)) pa_nil))))))), ?_⟩
    obtain ⟨a, dv, mv, rfl, ha, hdd, hm⟩ := step_da hd
    obtain ⟨ma, ms, rfl, hma, hms⟩ := Da.tup.mp hm
    have lms := hms.length
    rw [List.length_map] at lms
    refine ⟨_, rfl, _, rfl, a, _, _, _, rfl, rfl, SqT.of ha, at2 _ _ _ _, ma, rfl, ⟨_, SqT.of hma⟩, fun D nD => ?_⟩
    have pD : p ≠ D := fun e => hp.pn (by rw [e]; exact nD)
    have cD : c ≠ D := fun e => hp.cn (by rw [e]; exact nD)
    have map := hp.pd
    obtain ⟨kvs0, hp0⟩ := map
    have mp : ma ≠ p := ne_of hma hp0 (by intro q; cases q)
    have ap : a ≠ p := ne_of ha hp0 (by intro q; cases q)
    refine lc_mapT (K := K) (a := ma) (xs := ms) (· = p) (fun i H2 => PenOk (n + i) H2 p c ns) (fun i _ v H2 => ∃ m, z.moves[i]? = some m ∧ RowO p [kV m.1, kV m.2] v H2) (SqT.of hma) mp nD (fun e => pD e.symm) hp (fun i H2 o h => h.upd pD cD)
      (fun i _ v H2 H3 e ⟨m, q1, q2⟩ => ⟨m, q1, q2.sx e⟩) (by omega) ?_ ?_
    · intro i x H2 hi hacc e2 hp2 Q2 k2
      have kp2 := hp.kp e2
      obtain ⟨m, t, hmi, rfl, ht⟩ := mv_get (hms.kp kp2) hi
      have hil : i < ms.length := (List.getElem?_eq_some_iff.mp hi).1
      refine ⟨_, rfl, _, rfl, p, c, t, ns, n + i, _, rfl, hp2, by omega, .inr ht, fun H4 b s4 hp4 hb => ?_⟩
      obtain ⟨kvs, hpp⟩ := hp4.pd
      obtain ⟨acc, hD⟩ := hacc
      exact k2 _ H4 s4 hp4 ⟨m, hmi, rowO_of hb hpp ⟨acc, hD⟩ ⟨acc, s4 _ _ (Ne.symm pD) hD⟩⟩
    · intro H2 acc e2 hp2 hD hl hE
      have kp2 := hp.kp e2
      have hp2' : PenOk (n + 100) H2 p c ns := hp2.mono (by omega)
      refine ⟨p, c, D, ns, n + 100, acc, rfl, hp2', by omega, .inl hD, fun H3 b s3 hp3 hb => ?_⟩
      have e3 : Sx (· = p) H H3 := e2.trans s3
      have kp3 := hp.kp e3
      have kp23 := hp2'.kp s3
      -- the moves
      have hrows : ∀ (i : Nat) v, acc[i]? = some v → ∃ l t xs, (z.moves.map fun m => [kd m.1, kd m.2])[i]? = some l ∧ v = .ref t ∧ RowAt H3 t xs ∧ DaL H3 l xs := by
        intro i v hv
        have hi : i < ms.length := by
          rw [← hl]
          exact (List.getElem?_eq_some_iff.mp hv).1
        obtain ⟨m, h1, h2⟩ := hE i _ v (List.getElem?_eq_getElem hi) hv
        obtain ⟨t, rfl, h3⟩ := rowO_out h2
        refine ⟨_, t, [kV m.1, kV m.2], by rw [List.getElem?_map, h1]; rfl, rfl, h3.imp (kp23.l _ _) (kp23.t _ _), ?_⟩
        exact DaL.cons.mpr ⟨_, _, rfl, da_kd _, DaL.cons.mpr ⟨_, _, rfl, da_kd _, DaL.nil.mpr rfl⟩⟩
      obtain ⟨es, g1, _, g3, g4, g5⟩ := rows_da (by rw [hl, lms, List.length_map]) (fun l hl => by
        obtain ⟨m, _, rfl⟩ := List.mem_map.mp hl
        refine ⟨by simp, fun d hd => ?_⟩
        simp only [List.mem_cons, List.not_mem_nil, or_false] at hd
        rcases hd with rfl | rfl
        · cases m.1 <;> rfl
        · cases m.2 <;> rfl) hrows
      rw [List.length_map] at g4
      obtain ⟨md, hmd, hmda⟩ := row_data hb.row g1
      have easT : asT md = .tuple (z.moves.map mvd) := by
        have : asTL es = z.moves.map mvd := by
          rw [g3, List.map_map]
          rfl
        rcases hmd with rfl | rfl <;> rw [asT, this]
      have fmd : fit 4 md := by
        have := fit_row (n := 3) (ds := es) (by omega) fun e he => fit_up (fit_up (g5 e he))
        rcases hmd with rfl | rfl
        · exact this.2
        · exact this.1
      have ha3 := e3 _ _ ap ha
      have hdd3 := hdd.kp kp3
      rw [deed_its] at hdd3
      obtain ⟨da, dxs, rfl, hda, hdx⟩ := Da.tup.mp hdd3
      refine ⟨_, rfl, a, _, _, _, rfl, rfl, SqT.of ha3, at0 _ _, _, rfl, _, rfl, a, _, _, _, rfl, rfl, SqT.of ha3, at1 _ _ _, p, c, da, ns, n + 100 + 1, dxs, rfl, hp3, by omega, .inr hda, fun H4 b2 s4 hp4 hb2 => ?_⟩
      have kp34 := hp3.kp s4
      have ha4 := s4 _ _ ap ha3
      obtain ⟨dd, hdd', hdda⟩ := row_data hb2.row (hdx.kp kp34)
      have easD : asT dd = z.deed.d := by
        rw [deed_its]
        rcases hdd' with rfl | rfl <;> rw [asT, asTL_its]
      have fdd : fit 4 dd := by
        have := fit_row (n := 3) (fit_its z.deed).1 (fit_its z.deed).2
        rcases hdd' with rfl | rfl
        · exact this.2
        · exact this.1
      refine ⟨_, rfl, _, rfl, a, _, _, _, rfl, rfl, SqT.of ha4, at3 _ _ _ _ _, fun y dy ny ndy ne => ?_⟩
      have s5 : Same H4 (upd (upd H4 dy (.own y)) y (.ins (He.ga K "Step") dy [])) := same_upd (same_new ndy) ny
      refine ⟨y, dy, z.start, z.fin, _, _, dd, md, rfl, upd_same, hdda.kp (Kp.of s5), fdd, (hmda.kp kp34).kp (Kp.of s5), fmd, fun H5 d5 m5 s6 h5 hd5 hm5 => ⟨rfl, ?_⟩⟩
      have s46 : Same H4 H5 := fun b o q => s6 b o (fun e => by rw [e, ny] at q; cases q) (s5 b o q)
      refine k H5 y (e3.trans (s4.trans (Sx.ofSame s46))) ((hp4.same s46).mono (by omega)) ⟨dy, d5, m5, h5, ?_, ?_⟩
      · rw [← easD]
        exact hd5
      · rw [← easT]
        exact hm5
end
end K48

namespace K48
open PySem PySem.Spec PyProof.Rows L2
/-! ### drawn machine steps -/
/-- a key whose text may stand in shaped data -/
def KeyOk (k : Key) : Prop := (kd k).canLay0 = true
def OpIn : Opd → Prop
  | .pl k => KeyOk k
  | .num i => -9 ≤ i ∧ i ≤ 9
def Vl.lit : Vl → Prop
  | .as a => OpIn a
  | .plus a b => OpIn a ∧ OpIn b
  | .less a b => OpIn a ∧ OpIn b
  | .times a _ => OpIn a
def Deed.lit : Deed → Prop
  | .set t v => v.lit ∧ v.ok ∧ ∀ k, t = some k → KeyOk k
  | .give o => OpIn o
  | .test p _ => OpIn p.a ∧ OpIn p.b
  | .skip => True
def Deed.tgt (ks : List Key) : Deed → Prop
  | .set (some k) _ => k ∈ ks
  | _ => True
structure StepIn (ks : List Key) (s : Sp1) : Prop where
  l : s.deed.lit
  t : s.deed.tgt ks
  m : ∀ m ∈ s.moves, m.1 ∈ ks ∧ KeyOk m.1 ∧ KeyOk m.2
  n : s.moves.length ≤ 5
  f : s.fin.natAbs ≤ 9
theorem StepIn.ok {ks : List Key} {s : Sp1} (h : StepIn ks s) : s.ok := ⟨fun t v e => by
  have q := h.l
  rw [e] at q
  exact q.2.1, by have := h.n; omega⟩
section
variable {P : Program} {w : World} {K : PySem.W.Frag} {mg : Str → Option Value} {base : Heap}
/-- what a drawing def asks: the pen, the places -/
def spMk (k : Nat) (G : Hp → V → Prop) : Sp := fun vs H Q _ => ∃ (p c pl : Addr) (ns : List Int) (n : Nat) (ks : List Key), vs = [.ref p, .ref pl] ∧ PenOk n H p c ns ∧ n + k ≤ 1000000 ∧ H pl = some (.lst (ks.map kV)) ∧ ks ≠ [] ∧ ks.length ≤ 100 ∧ (∀ k ∈ ks, KeyOk k) ∧
  ∀ H' x, Sx (· = p) H H' → PenOk (n + k) H' p c ns → G H' x → Q x H'
theorem PenOk.lk {n : Nat} {H H' : Hp} {p c pl : Addr} {ns : List Int} {xs : List V} (h : PenOk n H p c ns) (e : Sx (· = p) H H') (q : H pl = some (.lst xs)) : H' pl = some (.lst xs) := (h.kp e).l _ _ q
def gOp : Hp → V → Prop := fun H x => ∃ o : Opd, Da H o.d x ∧ OpIn o
theorem sc_some_op : FnScope ["_law_pen_here", "_law_places"] ["_law_pen_here", "_law_places"] (defScope s__law_some_machine_operand) := ⟨rfl, rfl, rfl, by decide +kernel, rfl, by decide +kernel, by decide +kernel⟩
theorem ca_some_op (T : Tx K mg) : Ca P w K mg base CX0 3 "_law_some_machine_operand" (spMk 4 gOp) := by
  refine ca0 T.f_q_some_machine_operand T.m_q_some_machine_operand sc_some_op (fun _ _ _ _ _ _ us hl => match us, hl with | [_, _], _ => rfl) (fun vs H Q E h => ?_) (fun cdv A outer s H vs Q E hr h => ?_)
  · obtain ⟨p, c, pl, ns, n, ks, rfl, _⟩ := h
    rfl
  · obtain ⟨p, c, pl, ns, n, ks, rfl, hp, hn, hpl, hne, hkl, hko, k⟩ := h
    have c1 := ca_pick (P := P) (w := w) (base := base) T
    have c2 := ca_draw (P := P) (w := w) (base := base) T
    refine ⟨_, pss_one (ps_ret (pe_ca c1 hr (pa_cons (pv 0) (pa_cons (pe_lst (pa_cons (pe_tup (pa_cons pe_str (pa_cons (pe_ca c1 hr (pa_cons (pv 0) (pa_cons (pv 1) pa_nil))) pa_nil))) (pa_cons (pe_tup (pa_cons pe_str (pa_cons (pe_ca c1 hr (pa_cons (pv 0) (pa_cons (pv 1) pa_nil))) pa_nil)))
      (pa_cons (pe_op op_sub (pe_ca c2 hr (pa_cons (pv 0) (pa_cons pe_int pa_nil))) pe_int) pa_nil)))) pa_nil)))), ?_⟩
    have hks : ks.map kV ≠ [] := fun e => hne (List.map_eq_nil_iff.mp e)
    have hkl2 : (ks.map kV).length ≤ 1000 := by rw [List.length_map]; omega
    refine ⟨_, rfl, _, rfl, _, rfl, p, c, pl, ns, n, _, rfl, hp, by omega, hpl, hks, hkl2, fun H1 v s1 hp1 hv => ?_⟩
    obtain ⟨k1, hk1, rfl⟩ := List.mem_map.mp hv
    refine ⟨(by rw [sizeLine_eq]; show 2 ≤ _; omega), fun t1 n1 => ?_⟩
    have hp1' := hp1.new (o := .tup [.str "at", kV k1]) n1
    have sx1 : Sx (· = p) H (upd H1 t1 (.tup [.str "at", kV k1])) := sx_new s1 n1
    refine ⟨_, rfl, _, rfl, p, c, pl, ns, n + 1, _, rfl, hp1', by omega, hp.lk sx1 hpl, hks, hkl2, fun H2 v2 s2 hp2 hv2 => ?_⟩
    obtain ⟨k2, hk2, rfl⟩ := List.mem_map.mp hv2
    refine ⟨(by rw [sizeLine_eq]; show 2 ≤ _; omega), fun t2 n2 => ?_⟩
    have hp2' := hp2.new (o := .tup [.str "at", kV k2]) n2
    have sx2 : Sx (· = p) H (upd H2 t2 (.tup [.str "at", kV k2])) := sx_new (sx1.trans s2) n2
    have ht1 : H2 t1 = some (.tup [.str "at", kV k1]) := (hp1'.kp s2).t _ _ upd_same
    refine ⟨_, rfl, p, c, ns, n + 2, 19, rfl, hp2', by omega, by omega, by omega, fun H3 i s3 hp3 i0 i1 => ⟨_, _, rfl, rfl, ?_⟩⟩
    have kp23 := hp2'.kp s3
    have ht1' : H3 t1 = some (.tup [.str "at", kV k1]) := kp23.t _ _ (same_new n2 _ _ ht1)
    have ht2' : H3 t2 = some (.tup [.str "at", kV k2]) := kp23.t _ _ upd_same
    refine ⟨(by rw [sizeLine_eq]; show 3 ≤ _; omega), fun D nD => ?_⟩
    have hp3' := hp3.new (o := .lst [.ref t1, .ref t2, .int (i - 9)]) nD
    have s3D := same_new (o := .lst [.ref t1, .ref t2, .int (i - 9)]) nD
    refine ⟨p, c, D, ns, n + 3, _, rfl, hp3', by omega, upd_same, by simp, by simp, fun H4 x s4 hp4 hx => ?_⟩
    have kp4 := hp3'.kp s4
    have sx4 : Sx (· = p) H H4 := (sx_new (sx2.trans s3) nD).trans s4
    refine k H4 x sx4 (hp4.mono (by omega)) ?_
    have da2 : ∀ (t : Addr) (key : Key), H3 t = some (.tup [.str "at", kV key]) → Da H4 (Opd.pl key).d (.ref t) := fun t key q =>
      Da.tup.mpr ⟨t, _, rfl, kp4.t _ _ (s3D _ _ q), DaL.cons.mpr ⟨_, _, rfl, Da.str.mpr rfl, DaL.cons.mpr ⟨_, _, rfl, da_kd key, DaL.nil.mpr rfl⟩⟩⟩
    simp only [List.mem_cons, List.not_mem_nil, or_false] at hx
    rcases hx with rfl | rfl | rfl
    · exact ⟨.pl k1, da2 t1 k1 ht1', hko k1 hk1⟩
    · exact ⟨.pl k2, da2 t2 k2 ht2', hko k2 hk2⟩
    · exact ⟨.num (i - 9), Da.int.mpr rfl, by omega, by omega⟩
/-! value -/
theorem Da.two {H : Hp} {t : Addr} {d1 d2 : PyData} {x y : V} (h : H t = some (.tup [x, y])) (h1 : Da H d1 x) (h2 : Da H d2 y) : Da H (.tuple [d1, d2]) (.ref t) :=
  Da.tup.mpr ⟨t, _, rfl, h, DaL.cons.mpr ⟨_, _, rfl, h1, DaL.cons.mpr ⟨_, _, rfl, h2, DaL.nil.mpr rfl⟩⟩⟩
theorem Da.three {H : Hp} {t : Addr} {d1 d2 d3 : PyData} {x y z : V} (h : H t = some (.tup [x, y, z])) (h1 : Da H d1 x) (h2 : Da H d2 y) (h3 : Da H d3 z) : Da H (.tuple [d1, d2, d3]) (.ref t) :=
  Da.tup.mpr ⟨t, _, rfl, h, DaL.cons.mpr ⟨_, _, rfl, h1, DaL.cons.mpr ⟨_, _, rfl, h2, DaL.cons.mpr ⟨_, _, rfl, h3, DaL.nil.mpr rfl⟩⟩⟩⟩
def gVl : Hp → V → Prop := fun H x => ∃ v : Vl, Da H v.d x ∧ v.lit ∧ v.ok
abbrev nSV : List Str := ["_law_pen_here", "_law_places", "_law_word", "_law_one"]
theorem sc_some_vl : FnScope nSV ["_law_pen_here", "_law_places"] (defScope s__law_some_machine_value) := ⟨rfl, rfl, rfl, by decide +kernel, rfl, by decide +kernel, by decide +kernel⟩
theorem ca_some_vl (T : Tx K mg) : Ca P w K mg base CX0 4 "_law_some_machine_value" (spMk 9 gVl) := by
  refine ca0 T.f_q_some_machine_value T.m_q_some_machine_value sc_some_vl (fun _ _ _ _ _ _ us hl => match us, hl with | [_, _], _ => rfl) (fun vs H Q E h => ?_) (fun cdv A outer s H vs Q E hr h => ?_)
  · obtain ⟨p, c, pl, ns, n, ks, rfl, _⟩ := h
    rfl
  · obtain ⟨p, c, pl, ns, n, ks, rfl, hp, hn, hpl, hne, hkl, hko, k⟩ := h
    have c1 := ca_pick (P := P) (w := w) (base := base) T
    have c2 := ca_draw (P := P) (w := w) (base := base) T
    have c3 := ca_some_op (P := P) (w := w) (base := base) T
    refine ⟨_, pss_cons (ps_par (i := 2) (j := 3) (by rfl) sc_some_vl.nd rfl rfl (by decide) rfl rfl (pa_cons (pe_ca c1 hr (pa_cons (pv 0) (pa_cons (pe_lst (pa_cons pe_str (pa_cons pe_str (pa_cons pe_str (pa_cons pe_str (pa_cons pe_str pa_nil)))))) pa_nil))) (pa_cons (pe_ca c3 hr (pa_cons (pv 0) (pa_cons (pv 1) pa_nil))) pa_nil)) (by rfl))
      (pss_cons (ps_if (pt_cmpR op_eq (pv 2) pe_str (nomark _)) (pss_one (ps_ret (pe_tup (pa_cons (pv 2) (pa_cons (pv 3) pa_nil))))) pss_nil)
      (pss_one (ps_ret (pe_tup (pa_cons (pv 2) (pa_cons (pv 3) (pa_cons (pe_ifExp (pt_cmpR op_eq (pv 2) pe_str (nomark _)) (pe_op op_sub (pe_ca c2 hr (pa_cons (pv 0) (pa_cons pe_int pa_nil))) pe_int) (pe_ca c3 hr (pa_cons (pv 0) (pa_cons (pv 1) pa_nil)))) pa_nil))))))), ?_⟩
    refine ⟨_, rfl, (by rw [sizeLine_eq]; show 5 ≤ _; omega), fun D nD => ?_⟩
    have hp1 := hp.new (o := .lst [.str "as", .str "plus", .str "plus", .str "less", .str "times"]) nD
    have s1 := same_new (o := .lst [.str "as", .str "plus", .str "plus", .str "less", .str "times"]) nD
    refine ⟨p, c, D, ns, n, _, rfl, hp1, by omega, upd_same, by simp, by simp, fun H2 v s2 hp2 hv => ?_⟩
    have sx2 : Sx (· = p) H H2 := (Sx.ofSame s1).trans s2
    refine ⟨_, rfl, _, rfl, p, c, pl, ns, n + 1, ks, rfl, hp2, by omega, hp.lk sx2 hpl, hne, hkl, hko, fun H3 x s3 hp3 ⟨o, ho, lo⟩ => ?_⟩
    have sx3 : Sx (· = p) H H3 := sx2.trans s3
    refine ⟨_, _, rfl, ?_⟩
    -- two operands
    have two : ∀ (W : Opd → Opd → Vl) (wd : Str), (∀ a b, (W a b).d = .tuple [.str wd, a.d, b.d]) → (∀ a b, OpIn a → OpIn b → (W a b).lit ∧ (W a b).ok) → tCall (spMk 4 gOp) [] E0 (tCons (tVar 0) (tCons (tVar 1) tNil)) [some (.ref p), some (.ref pl), some (.str wd), some x] H3 fun y H4 => 3 ≤ sizeLine ∧ ∀ t, H4 t = none → Q (.ref t) (upd H4 t (.tup [.str wd, x, y])) := by
      intro W wd eW lW
      refine ⟨_, rfl, _, rfl, p, c, pl, ns, n + 1 + 4, ks, rfl, hp3, by omega, hp.lk sx3 hpl, hne, hkl, hko, fun H4 y s4 hp4 ⟨o2, ho2, lo2⟩ => ⟨(by rw [sizeLine_eq]; omega), fun t nt => ?_⟩⟩
      have kp4 := hp3.kp s4
      have s5 := same_new (o := .tup [.str wd, x, y]) nt
      refine k _ _ (sx_new (sx3.trans s4) nt) ((hp4.new nt).mono (by omega)) ⟨W o o2, ?_, lW _ _ lo lo2⟩
      rw [eW]
      exact Da.three upd_same (Da.str.mpr rfl) ((ho.kp kp4).kp (Kp.of s5)) (ho2.kp (Kp.of s5))
    simp only [List.mem_cons, List.not_mem_nil, or_false] at hv
    have plus : v = .str "plus" → tSeq (tIfS (tTest (tOp rEq (tVar 2) (tC (.str "as")))) (tRet (tTup (tCons (tVar 2) (tCons (tVar 3) tNil)))) tNext) (tRet (tTup (tCons (tVar 2) (tCons (tVar 3) (tCons (tIf (tTest (tOp rEq (tVar 2) (tC (.str "times")))) (tOp (rI0 fun i j => .int (i - j)) (tCall spDraw [] E0 (tCons (tVar 0) (tCons (tC (.int 1999)) tNil))) (tC (.int 999))) (tCall (spMk 4 gOp) [] E0 (tCons (tVar 0) (tCons (tVar 1) tNil)))) tNil))))) { nx := fun _ H' => Q .non H', rt := Q } [some (.ref p), some (.ref pl), some v, some x] H3 := by
      rintro rfl
      refine ⟨_, rfl, rfl, _, rfl, if_f (sne "plus" "as") ?_⟩
      refine ⟨_, rfl, _, rfl, _, rfl, rfl, _, rfl, if_f (sne "plus" "times") ?_⟩
      exact two Vl.plus "plus" (fun _ _ => rfl) (fun _ _ a b => ⟨⟨a, b⟩, True.intro⟩)
    rcases hv with rfl | rfl | rfl | rfl | rfl
    · refine ⟨_, rfl, rfl, _, rfl, if_t (decide_eq_true rfl) ?_⟩
      refine ⟨_, rfl, _, rfl, (by rw [sizeLine_eq]; show 2 ≤ _; omega), fun t nt => ?_⟩
      have s5 := same_new (o := .tup [.str "as", x]) nt
      exact k _ _ (sx_new sx3 nt) ((hp3.new nt).mono (by omega)) ⟨.as o, Da.two upd_same (Da.str.mpr rfl) (ho.kp (Kp.of s5)), lo, True.intro⟩
    · exact plus rfl
    · exact plus rfl
    · refine ⟨_, rfl, rfl, _, rfl, if_f (sne "less" "as") ?_⟩
      refine ⟨_, rfl, _, rfl, _, rfl, rfl, _, rfl, if_f (sne "less" "times") ?_⟩
      exact two Vl.less "less" (fun _ _ => rfl) (fun _ _ a b => ⟨⟨a, b⟩, True.intro⟩)
    · refine ⟨_, rfl, rfl, _, rfl, if_f (sne "times" "as") ?_⟩
      refine ⟨_, rfl, _, rfl, _, rfl, rfl, _, rfl, if_t (decide_eq_true rfl) ?_⟩
      refine ⟨_, rfl, p, c, ns, n + 1 + 4, 1999, rfl, hp3, by omega, by omega, by omega, fun H4 i s4 hp4 i0 i1 => ⟨_, _, rfl, rfl, (by rw [sizeLine_eq]; show 3 ≤ _; omega), fun t nt => ?_⟩⟩
      have kp4 := hp3.kp s4
      have s5 := same_new (o := .tup [.str "times", x, .int (i - 999)]) nt
      exact k _ _ (sx_new (sx3.trans s4) nt) ((hp4.new nt).mono (by omega)) ⟨.times o (i - 999), Da.three upd_same (Da.str.mpr rfl) ((ho.kp kp4).kp (Kp.of s5)) (Da.int.mpr rfl), lo, by omega, by omega⟩
/-! pair -/
def gPr : Hp → V → Prop := fun H x => ∃ v : Pr, Da H v.d x ∧ OpIn v.a ∧ OpIn v.b
abbrev nSP2 : List Str := ["_law_pen_here", "_law_places", "_law_one", "_law_other"]
theorem sc_some_pr : FnScope nSP2 ["_law_pen_here", "_law_places"] (defScope s__law_some_machine_pair) := ⟨rfl, rfl, rfl, by decide +kernel, rfl, by decide +kernel, by decide +kernel⟩
theorem ca_some_pr (T : Tx K mg) : Ca P w K mg base CX0 4 "_law_some_machine_pair" (spMk 9 gPr) := by
  refine ca0 T.f_q_some_machine_pair T.m_q_some_machine_pair sc_some_pr (fun _ _ _ _ _ _ us hl => match us, hl with | [_, _], _ => rfl) (fun vs H Q E h => ?_) (fun cdv A outer s H vs Q E hr h => ?_)
  · obtain ⟨p, c, pl, ns, n, ks, rfl, _⟩ := h
    rfl
  · obtain ⟨p, c, pl, ns, n, ks, rfl, hp, hn, hpl, hne, hkl, hko, k⟩ := h
    have c1 := ca_pick (P := P) (w := w) (base := base) T
    have c3 := ca_some_op (P := P) (w := w) (base := base) T
    refine ⟨_, pss_cons (ps_par (i := 2) (j := 3) (by rfl) sc_some_pr.nd rfl rfl (by decide) rfl rfl (pa_cons (pe_ca c3 hr (pa_cons (pv 0) (pa_cons (pv 1) pa_nil))) (pa_cons (pe_ca c3 hr (pa_cons (pv 0) (pa_cons (pv 1) pa_nil))) pa_nil)) (by rfl))
      (pss_one (ps_ret (pe_tup (pa_cons (pe_ca c1 hr (pa_cons (pv 0) (pa_cons (pe_lst (pa_cons pe_str (pa_cons pe_str (pa_cons pe_str pa_nil)))) pa_nil))) (pa_cons (pv 2) (pa_cons (pv 3) pa_nil)))))), ?_⟩
    refine ⟨_, rfl, _, rfl, p, c, pl, ns, n, ks, rfl, hp, by omega, hpl, hne, hkl, hko, fun H1 x s1 hp1 ⟨o1, ho1, lo1⟩ => ?_⟩
    refine ⟨_, rfl, _, rfl, p, c, pl, ns, n + 4, ks, rfl, hp1, by omega, hp.lk s1 hpl, hne, hkl, hko, fun H2 y s2 hp2 ⟨o2, ho2, lo2⟩ => ⟨_, _, rfl, ?_⟩⟩
    refine ⟨_, rfl, (by rw [sizeLine_eq]; show 3 ≤ _; omega), fun D nD => ?_⟩
    have s3 := same_new (o := .lst [.str "below", .str "most", .str "is"]) nD
    have hp3 := hp2.new (o := .lst [.str "below", .str "most", .str "is"]) nD
    refine ⟨p, c, D, ns, n + 4 + 4, _, rfl, hp3, by omega, upd_same, by simp, by simp, fun H4 v s4 hp4 hv => ⟨_, rfl, _, rfl, (by rw [sizeLine_eq]; show 3 ≤ _; omega), fun t nt => ?_⟩⟩
    have kp12 := hp1.kp s2
    have kp34 := hp3.kp s4
    have s5 := same_new (o := .tup [v, x, y]) nt
    have hx := (((ho1.kp kp12).kp (Kp.of s3)).kp kp34).kp (Kp.of s5)
    have hy := ((ho2.kp (Kp.of s3)).kp kp34).kp (Kp.of s5)
    refine k _ _ (sx_new ((s1.trans s2).trans ((Sx.ofSame s3).trans s4)) nt) ((hp4.new nt).mono (by omega)) ?_
    simp only [List.mem_cons, List.not_mem_nil, or_false] at hv
    rcases hv with rfl | rfl | rfl
    · exact ⟨⟨.below, o1, o2⟩, Da.three upd_same (Da.str.mpr rfl) hx hy, lo1, lo2⟩
    · exact ⟨⟨.most, o1, o2⟩, Da.three upd_same (Da.str.mpr rfl) hx hy, lo1, lo2⟩
    · exact ⟨⟨.is, o1, o2⟩, Da.three upd_same (Da.str.mpr rfl) hx hy, lo1, lo2⟩
end
end K48

namespace K48
open PySem PySem.Spec PyProof.Rows L2
theorem refs_of {G : Nat → Addr → Prop} : ∀ {acc : List V}, (∀ (i : Nat) v, acc[i]? = some v → ∃ b, v = .ref b ∧ G i b) → ∃ as : List Addr, acc = as.map V.ref ∧ ∀ (i : Nat) b, as[i]? = some b → G i b := fun {acc} h => by
  induction acc generalizing G with
  | nil => exact ⟨[], rfl, fun i b q => by simp at q⟩
  | cons v r ih =>
    obtain ⟨b, rfl, hb⟩ := h 0 v rfl
    obtain ⟨as, e, g⟩ := ih (G := fun i b => G (i + 1) b) fun i v hv => h (i + 1) v (by simpa using hv)
    refine ⟨b :: as, by rw [e]; rfl, fun i b' q => ?_⟩
    cases i with
    | zero =>
      cases q
      exact hb
    | succ i => exact g i b' (by simpa using q)
section
variable {P : Program} {w : World} {K : PySem.W.Frag} {mg : Str → Option Value} {base : Heap}
/-! deed -/
def spSomeDeed : Sp := fun vs H Q _ => ∃ (p c pl : Addr) (ns : List Int) (n : Nat) (ks : List Key) (key : Key), vs = [.ref p, .ref pl, kV key] ∧ PenOk n H p c ns ∧ n + 12 ≤ 1000000 ∧ H pl = some (.lst (ks.map kV)) ∧ ks ≠ [] ∧ ks.length ≤ 100 ∧ key ∈ ks ∧ (∀ k ∈ ks, KeyOk k) ∧
  ∀ H' x d, Sx (· = p) H H' → PenOk (n + 12) H' p c ns → Da H' (Deed.d d) x → d.lit → d.tgt ks → Q x H'
abbrev nSD : List Str := ["_law_pen_here", "_law_places", "_law_place", "_law_way"]
theorem sc_some_deed : FnScope nSD ["_law_pen_here", "_law_places", "_law_place"] (defScope s__law_some_machine_deed) := ⟨rfl, rfl, rfl, by decide +kernel, rfl, by decide +kernel, by decide +kernel⟩
theorem ca_some_deed (T : Tx K mg) : Ca P w K mg base CX0 5 "_law_some_machine_deed" spSomeDeed := by
  refine ca0 T.f_q_some_machine_deed T.m_q_some_machine_deed sc_some_deed (fun _ _ _ _ _ _ us hl => match us, hl with | [_, _, _], _ => rfl) (fun vs H Q E h => ?_) (fun cdv A outer s H vs Q E hr h => ?_)
  · obtain ⟨p, c, pl, ns, n, ks, key, rfl, _⟩ := h
    rfl
  · obtain ⟨p, c, pl, ns, n, ks, key, rfl, hp, hn, hpl, hne, hkl, hkey, hko, k⟩ := h
    have c1 := ca_draw (P := P) (w := w) (base := base) T
    have c2 := ca_some_vl (P := P) (w := w) (base := base) T
    have c3 := ca_some_op (P := P) (w := w) (base := base) T
    have c4 := ca_some_pr (P := P) (w := w) (base := base) T
    refine ⟨_, pss_cons (ps_set (i := 3) sc_some_deed.nd rfl (Or.inl rfl) (pe_ca c1 hr (pa_cons (pv 0) (pa_cons pe_int pa_nil))))
      (pss_cons (ps_if (pt_cmpR op_lt (pv 3) pe_int (nomark _)) (pss_one (ps_ret (pe_tup (pa_cons pe_str (pa_cons (pv 2) (pa_cons (pe_ca c2 hr (pa_cons (pv 0) (pa_cons (pv 1) pa_nil))) pa_nil)))))) pss_nil)
      (pss_cons (ps_if (pt_cmpR op_eq (pv 3) pe_int (nomark _)) (pss_one (ps_ret (pe_tup (pa_cons pe_str (pa_cons pe_non (pa_cons (pe_ca c2 hr (pa_cons (pv 0) (pa_cons (pv 1) pa_nil))) pa_nil)))))) pss_nil)
      (pss_cons (ps_if (pt_cmpR op_eq (pv 3) pe_int (nomark _)) (pss_one (ps_ret (pe_tup (pa_cons pe_str pa_nil)))) pss_nil)
      (pss_cons (ps_if (pt_cmpR op_eq (pv 3) pe_int (nomark _)) (pss_one (ps_ret (pe_tup (pa_cons pe_str (pa_cons (pe_ca c3 hr (pa_cons (pv 0) (pa_cons (pv 1) pa_nil))) pa_nil))))) pss_nil)
      (pss_one (ps_ret (pe_tup (pa_cons pe_str (pa_cons (pe_ca c4 hr (pa_cons (pv 0) (pa_cons (pv 1) pa_nil))) (pa_cons (pe_cmpR op_eq (pe_ca c1 hr (pa_cons (pv 0) (pa_cons pe_int pa_nil))) pe_int (nomark _)) pa_nil)))))))))), ?_⟩
    refine ⟨_, rfl, p, c, ns, n, 9, rfl, hp, by omega, by omega, by omega, fun H1 wv s1 hp1 w0 w1 => ?_⟩
    have hpl1 := hp.lk s1 hpl
    -- ("set", .., value)
    have sets : ∀ (tv : V) (t : Option Key), (∀ H, Da H (tgd t) tv) → (∀ v, Deed.tgt ks (.set t v)) → (∀ k, t = some k → KeyOk k) → tCall (spMk 9 gVl) [] E0 (tCons (tVar 0) (tCons (tVar 1) tNil)) [some (.ref p), some (.ref pl), some (kV key), some (.int wv)] H1 fun y H4 => 3 ≤ sizeLine ∧ ∀ q, H4 q = none → Q (.ref q) (upd H4 q (.tup [.str "set", tv, y])) := by
      intro tv t htv htg hok2
      refine ⟨_, rfl, _, rfl, p, c, pl, ns, n + 1, ks, rfl, hp1, by omega, hpl1, hne, hkl, hko, fun H4 y s4 hp4 ⟨v, hv, lv, ov⟩ => ⟨(by rw [sizeLine_eq]; omega), fun q nq => ?_⟩⟩
      have s5 := same_new (o := .tup [.str "set", tv, y]) nq
      exact k _ _ (.set t v) (sx_new (s1.trans s4) nq) ((hp4.new nq).mono (by omega)) (Da.three upd_same (Da.str.mpr rfl) (htv _) (hv.kp (Kp.of s5))) ⟨lv, ov, hok2⟩ (htg v)
    refine ⟨_, rfl, _, _, rfl, rfl, _, rfl, ?_⟩
    refine if_b (fun q1 => ?_) fun q1 => ?_
    · exact ⟨_, rfl, sets (kV key) (some key) (fun H => da_kd key) (fun _ => hkey) fun k' e => by cases e; exact hko key hkey⟩
    · refine ⟨_, rfl, rfl, _, rfl, ?_⟩
      refine if_b (fun q2 => ?_) fun q2 => ?_
      · exact sets .non none (fun H => Da.none.mpr rfl) (fun _ => True.intro) fun k' e => by cases e
      · refine ⟨_, rfl, rfl, _, rfl, ?_⟩
        refine if_b (fun q3 => ?_) fun q3 => ?_
        · refine ⟨(by rw [sizeLine_eq]; show 1 ≤ _; omega), fun q nq => ?_⟩
          exact k _ _ .skip (sx_new s1 nq) ((hp1.new nq).mono (by omega)) (Da.tup.mpr ⟨q, _, rfl, upd_same, DaL.cons.mpr ⟨_, _, rfl, Da.str.mpr rfl, DaL.nil.mpr rfl⟩⟩) True.intro True.intro
        · refine ⟨_, rfl, rfl, _, rfl, ?_⟩
          refine if_b (fun q4 => ?_) fun q4 => ?_
          · refine ⟨_, rfl, _, rfl, p, c, pl, ns, n + 1, ks, rfl, hp1, by omega, hpl1, hne, hkl, hko, fun H4 y s4 hp4 ⟨o, ho, lo⟩ => ⟨(by rw [sizeLine_eq]; show 2 ≤ _; omega), fun q nq => ?_⟩⟩
            have s5 := same_new (o := .tup [.str "give", y]) nq
            exact k _ _ (.give o) (sx_new (s1.trans s4) nq) ((hp4.new nq).mono (by omega)) (Da.two upd_same (Da.str.mpr rfl) (ho.kp (Kp.of s5))) lo True.intro
          · refine ⟨_, rfl, _, rfl, p, c, pl, ns, n + 1, ks, rfl, hp1, by omega, hpl1, hne, hkl, hko, fun H4 y s4 hp4 ⟨pr, hpr, lpa, lpb⟩ => ?_⟩
            refine ⟨_, rfl, p, c, ns, n + 1 + 9, 2, rfl, hp4, by omega, by omega, by omega, fun H5 i s5 hp5 i0 i1 => ⟨rfl, (by rw [sizeLine_eq]; show 3 ≤ _; omega), fun q nq => ?_⟩⟩
            have kp45 := hp4.kp s5
            have s6 := same_new (o := .tup [.str "test", y, .bl (decide (V.int i = V.int 0))]) nq
            exact k _ _ (.test pr (decide (V.int i = V.int 0))) (sx_new ((s1.trans s4).trans s5) nq) ((hp5.new nq).mono (by omega)) (Da.three upd_same (Da.str.mpr rfl) ((hpr.kp kp45).kp (Kp.of s6)) (Da.bool.mpr rfl)) ⟨lpa, lpb⟩ True.intro
/-! made_code -/
def spMadeCode (C CS : Addr) : Sp := fun vs H Q _ => ∃ (p c a : Addr) (ns : List Int) (n : Nat) (xs : List V) (ss : List Sp1), vs = [.ref p, .ref a] ∧ PenOk n H p c ns ∧ n + 102 * ss.length + 1 ≤ 1000000 ∧ H a = some (.lst xs) ∧ DaL H (ss.map Sp1.d) xs ∧ StepsOk ss ∧
  ∀ H' cd as, Sx (· = p) H H' → PenOk (n + 102 * ss.length + 1) H' p c ns → CodeS C CS H' cd as ss → Q (.ref cd) H'
abbrev nMC : List Str := ["_law_pen_here", "_law_steps", "_law_step"]
theorem sc_made_code : FnScope nMC ["_law_pen_here", "_law_steps"] (defScope s__law_made_code) := ⟨rfl, rfl, rfl, by decide +kernel, rfl, by decide +kernel, by decide +kernel⟩
theorem ca_made_code (T : Tx K mg) : Ca P w K mg base CX0 10 "_law_made_code" (spMadeCode (He.ga K "Code") (He.ga K "Step")) := by
  refine ca0 T.f_q_made_code T.m_q_made_code sc_made_code (fun _ _ _ _ _ _ us hl => match us, hl with | [_, _], _ => rfl) (fun vs H Q E h => ?_) (fun cdv A outer s H vs Q E hr h => ?_)
  · obtain ⟨p, c, a, ns, n, xs, ss, rfl, _⟩ := h
    rfl
  · obtain ⟨p, c, a, ns, n, xs, ss, rfl, hp, hn, ha, hx, hok, k⟩ := h
    have c1 := ca_listed (P := P) (w := w) (base := base) T
    have c2 := ca_made_step (P := P) (w := w) (base := base) T
    have c3 := ma_Code (P := P) (w := w) (base := base) T
    refine ⟨_, pss_one (ps_ret (pe_ma c3 hr (pa_cons (pe_ca c1 hr (pa_cons (pv 0) (pa_cons (pe_lc (own := [("_law_step", 2)]) (g := gName 2) (te := tCall (spMadeStep (He.ga K "Step")) [] E0 (tCons (tVar 0) (tCons (tVar 2) tNil))) (tt := tYes) rfl sc_made_code.nd (pi_list (pv 1)) (blkOk_by (N := nMC) (sc := defScope s__law_made_code) (by decide +kernel))
          (fun _ _ _ _ _ => pg_name (i := 2) sc_made_code.nd rfl (Or.inl rfl)) (fun _ _ _ _ _ => pts_nil) (fun _ _ _ _ _ => pe_ca c2 hr (pa_cons (pv 0) (pa_cons (pv 2) pa_nil)))) pa_nil))) pa_nil))), ?_⟩
    have lx := hx.length
    rw [List.length_map] at lx
    have lss := hok.l
    obtain ⟨kvs0, hp0⟩ := hp.pd
    have ap : a ≠ p := ne_of ha hp0 (by intro q; cases q)
    refine ⟨_, rfl, _, rfl, a, rfl, ⟨_, SqL.of ha⟩, fun D nD => ?_⟩
    have pD : p ≠ D := fun e => hp.pn (by rw [e]; exact nD)
    have cD : c ≠ D := fun e => hp.cn (by rw [e]; exact nD)
    refine lc_mapL (K := K) (a := a) (xs := xs) (· = p) (fun i H2 => PenOk (n + 102 * i) H2 p c ns) (fun i _ v H2 => ∃ s b, ss[i]? = some s ∧ v = .ref b ∧ StepAt (He.ga K "Step") (off H2 p) b s) (SqL.of ha) ap nD (fun e => pD e.symm) hp (fun i H2 o h => h.upd pD cD)
      (fun i _ v H2 H3 e ⟨s, b, q1, q2, q3⟩ => ⟨s, b, q1, q2, q3.kt (kt_off_sx e)⟩) (by omega) ?_ ?_
    · intro i x H2 hi hacc e2 hp2 Q2 k2
      have kp2 := hp.kp e2
      obtain ⟨d', h1, h2⟩ := (hx.kp kp2).get hi
      rw [List.getElem?_map] at h1
      have hil : i < xs.length := (List.getElem?_eq_some_iff.mp hi).1
      cases qs : ss[i]? with
      | none =>
        rw [qs] at h1
        cases h1
      | some z =>
        rw [qs] at h1
        cases h1
        refine ⟨_, rfl, _, rfl, p, c, ns, n + 102 * i, x, z, rfl, hp2, by omega, h2, (hok.m z (List.mem_of_getElem? qs)).m, fun H4 b s4 hp4 hb => ?_⟩
        obtain ⟨kvs, hpp⟩ := hp4.pd
        obtain ⟨acc, hD⟩ := hacc
        have hD4 := s4 _ _ (Ne.symm pD) hD
        refine k2 _ H4 s4 (hp4.mono (by omega)) ⟨z, b, qs, rfl, ?_⟩
        have kt1 : Kt H4 (off H4 D) := kt_off hD4
        have hpp2 : (off H4 D) p = some (.dK kvs) := by
          rw [off_ne pD]
          exact hpp
        exact (hb.kt kt1).kt (kt_offK hpp2)
    · intro H2 acc e2 hp2 hD hl hE
      have hp2' : PenOk (n + 102 * ss.length) H2 p c ns := by
        rw [← lx]
        exact hp2
      have hsteps : ∃ as : List Addr, acc = as.map V.ref ∧ ∀ (i : Nat) b s, as[i]? = some b → ss[i]? = some s → StepAt (He.ga K "Step") H2 b s := by
        have g : ∀ (i : Nat) v, acc[i]? = some v → ∃ b, v = .ref b ∧ ∀ s, ss[i]? = some s → StepAt (He.ga K "Step") H2 b s := fun i v hv => by
          have hi : i < xs.length := by
            rw [← hl]
            exact (List.getElem?_eq_some_iff.mp hv).1
          obtain ⟨s, b, h1, h2, h3⟩ := hE i _ v (List.getElem?_eq_getElem hi) hv
          refine ⟨b, h2, fun s' hs => ?_⟩
          rw [h1] at hs
          cases hs
          exact h3.kt (kt_of_off.trans kt_of_off)
        obtain ⟨as, e, g2⟩ := refs_of g
        exact ⟨as, e, fun i b s h1 h2 => g2 i b h1 s h2⟩
      obtain ⟨as, rfl, hst⟩ := hsteps
      rw [List.length_map] at hl
      refine ⟨p, c, D, ns, n + 102 * ss.length, _, rfl, hp2', by omega, .inl hD, fun H3 b s3 hp3 hb => ?_⟩
      have e3 : Sx (· = p) H H3 := e2.trans s3
      have kp23 := hp2'.kp s3
      obtain ⟨kvs2, hpp2⟩ := hp2'.pd
      have hst3 : ∀ (i : Nat) b s, as[i]? = some b → ss[i]? = some s → StepAt (He.ga K "Step") H3 b s := fun i b s h1 h2 => by
        have q := hst i b s h1 h2
        exact ((q.kt (kt_offK hpp2)).kt (kt_off_sx s3)).kt kt_of_off
      intro y dy ny ndy ne
      have s5 : Same H3 (upd (upd H3 dy (.own y)) y (.ins (He.ga K "Code") dy [])) := same_upd (same_new ndy) ny
      refine ⟨y, dy, b, as, rfl, upd_same, hb.row.same s5, by omega, fun b2 hb2 => ?_, fun H5 t s6 h5 ht => ⟨rfl, ?_⟩⟩
      · obtain ⟨i, hi⟩ := List.mem_iff_getElem?.mp hb2
        have il : i < ss.length := by
          rw [← lx, ← hl]
          exact (List.getElem?_eq_some_iff.mp hi).1
        obtain ⟨dz, _, _, q, _⟩ := hst3 i b2 _ hi (List.getElem?_eq_getElem il)
        exact ⟨dz, _, s5 _ _ q⟩
      · have s46 : Same H3 H5 := fun b o q => s6 b o (fun e => by rw [e, ny] at q; cases q) (s5 b o q)
        exact k H5 y as (e3.trans (Sx.ofSame s46)) (hp3.same s46) ⟨dy, t, h5, ht, by omega, fun i b s h1 h2 => stepAt_same s46 (hst3 i b s h1 h2)⟩
end
end K48

namespace K48
open PySem PySem.Spec PyProof.Rows L2
theorem keys_of {ks : List Key} : ∀ {ys : List V}, (∀ y ∈ ys, ∃ k ∈ ks, y = kV k) → ∃ l : List Key, ys = l.map kV ∧ ∀ k ∈ l, k ∈ ks
  | [], _ => ⟨[], rfl, fun k h => by simp at h⟩
  | y :: ys, h => by
    obtain ⟨k, hk, rfl⟩ := h y (List.mem_cons_self ..)
    obtain ⟨l, e, hl⟩ := keys_of (ys := ys) fun y hy => h y (List.mem_cons_of_mem _ hy)
    refine ⟨k :: l, by rw [e]; rfl, fun k' hk' => ?_⟩
    rcases List.mem_cons.mp hk' with rfl | hk'
    · exact hk
    · exact hl k' hk'
theorem cut_mem {xs : List V} {lo hi : Option Int} {y : V} (h : y ∈ cutV xs lo hi) : y ∈ xs := by
  unfold cutV at h
  exact List.mem_of_mem_drop (List.mem_of_mem_take h)
theorem cut_few {xs : List V} {m : Nat} (h : xs ≠ []) : (cutV xs (some 1) (some ((1 + m : Nat) : Int))).length ≤ m := by
  unfold cutV
  have l0 : 0 < xs.length := List.length_pos_iff.mpr h
  have e1 : HT.sIx xs.length 0 (some 1) = min 1 xs.length := HT.sIx_nat _ _ 1
  have e2 : HT.sIx xs.length xs.length (some ((1 + m : Nat) : Int)) = min (1 + m) xs.length := HT.sIx_nat _ _ _
  rw [e1, e2, List.length_take]
  omega
theorem mvs_of {H : Hp} {ks : List Key} : ∀ {acc : List V}, (∀ (i : Nat) v, acc[i]? = some v → ∃ m : Key × Key, Da H (mvd m) v ∧ m.1 ∈ ks ∧ KeyOk m.1 ∧ KeyOk m.2) → ∃ ms : List (Key × Key), DaL H (ms.map mvd) acc ∧ ∀ m ∈ ms, m.1 ∈ ks ∧ KeyOk m.1 ∧ KeyOk m.2
  | [], _ => ⟨[], DaL.nil.mpr rfl, fun m h => by simp at h⟩
  | v :: r, h => by
    obtain ⟨m, h1, h2⟩ := h 0 v rfl
    obtain ⟨ms, g1, g2⟩ := mvs_of (acc := r) fun i v hv => h (i + 1) v (by simpa using hv)
    refine ⟨m :: ms, DaL.cons.mpr ⟨_, _, rfl, h1, g1⟩, fun m' hm => ?_⟩
    rcases List.mem_cons.mp hm with rfl | hm
    · exact h2
    · exact g2 m' hm
section
variable {P : Program} {w : World} {K : PySem.W.Frag} {mg : Str → Option Value} {base : Heap}
/-! some_machine_step -/
def spSomeStep : Sp := fun vs H Q _ => ∃ (p c pt pl : Addr) (ns : List Int) (n : Nat) (is : List Int) (ks : List Key), vs = [.ref p, .ref pt, .ref pl] ∧ PenOk n H p c ns ∧ n + 40 ≤ 1000000 ∧ H pt = some (.lst (is.map V.int)) ∧ is ≠ [] ∧ is.length ≤ 100 ∧ (∀ i ∈ is, i.natAbs ≤ 9) ∧ H pl = some (.lst (ks.map kV)) ∧ ks ≠ [] ∧ ks.length ≤ 10 ∧ (∀ k ∈ ks, KeyOk k) ∧
  ∀ H' x s, Sx (· = p) H H' → PenOk (n + 40) H' p c ns → Da H' (Sp1.d s) x → StepIn ks s → Q x H'
abbrev nSS : List Str := ["_law_pen_here", "_law_points", "_law_places", "_law_order", "_law_many", "_law_moves", "_law_to"]
theorem sc_some_step : FnScope nSS ["_law_pen_here", "_law_points", "_law_places"] (defScope s__law_some_machine_step) := ⟨rfl, rfl, rfl, by decide +kernel, rfl, by decide +kernel, by decide +kernel⟩
theorem ca_some_step (T : Tx K mg) : Ca P w K mg base CX0 6 "_law_some_machine_step" spSomeStep := by
  refine ca0 T.f_q_some_machine_step T.m_q_some_machine_step sc_some_step (fun _ _ _ _ _ _ us hl => match us, hl with | [_, _, _], _ => rfl) (fun vs H Q E h => ?_) (fun cdv A outer s H vs Q E hr h => ?_)
  · obtain ⟨p, c, pt, pl, ns, n, is, ks, rfl, _⟩ := h
    rfl
  · obtain ⟨p, c, pt, pl, ns, n, is, ks, rfl, hp, hn, hpt, hi0, hil, hib, hpl, hne, hkl, hko, k⟩ := h
    have c1 := ca_mixed (P := P) (w := w) (base := base) T
    have c2 := ca_draw (P := P) (w := w) (base := base) T
    have c3 := ca_pick (P := P) (w := w) (base := base) T
    have c4 := ca_some_deed (P := P) (w := w) (base := base) T
    refine ⟨_, pss_cons (ps_set (i := 3) sc_some_step.nd rfl (Or.inl rfl) (pe_ca c1 hr (pa_cons (pv 0) (pa_cons (pv 2) pa_nil))))
      (pss_cons (ps_set (i := 4) sc_some_step.nd rfl (Or.inl rfl) (pe_ca c2 hr (pa_cons (pv 0) (pa_cons (pe_callB (call_min2 rfl) (by rfl) T.z_min (by decide +kernel) (pa_cons pe_int (pa_cons (pe_callB call_len_seq (by rfl) T.z_len PySem.boot_len (pa_cons (pv 3) pa_nil)) pa_nil))) pa_nil))))
      (pss_cons (ps_set (i := 5) sc_some_step.nd rfl (Or.inl rfl) (pe_callTy call_tuple_of (by rfl) T.z_tuple (by decide +kernel) (pa_cons
        (pe_lc (own := [("_law_to", 6)]) (g := gName 6) (te := tTup (tCons (tVar 6) (tCons (tCall (spPick K) [] E0 (tCons (tVar 0) (tCons (tVar 2) tNil))) tNil))) (tt := tYes) rfl sc_some_step.nd (pi_list (pe_slice sl_list (pv 3) (po_some pe_int) (po_some (pe_op op_add pe_int (pv 4))))) (blkOk_by (N := nSS) (sc := defScope s__law_some_machine_step) (by decide +kernel))
          (fun _ _ _ _ _ => pg_name (i := 6) sc_some_step.nd rfl (Or.inl rfl)) (fun _ _ _ _ _ => pts_nil) (fun _ _ _ _ _ => pe_tup (pa_cons (pv 6) (pa_cons (pe_ca c3 hr (pa_cons (pv 0) (pa_cons (pv 2) pa_nil))) pa_nil)))) pa_nil)))
      (pss_one (ps_ret (pe_tup (pa_cons (pe_ca c3 hr (pa_cons (pv 0) (pa_cons (pv 1) pa_nil))) (pa_cons (pe_ca c4 hr (pa_cons (pv 0) (pa_cons (pv 2) (pa_cons (pe_ix ix_list (pv 3) pe_int (fun _ _ => rfl)) pa_nil)))) (pa_cons (pv 5) (pa_cons (pe_ca c3 hr (pa_cons (pv 0) (pa_cons (pv 1) pa_nil))) pa_nil))))))))), ?_⟩
    have lk : (ks.map kV).length = ks.length := List.length_map _
    have hks : ks.map kV ≠ [] := fun e => hne (List.map_eq_nil_iff.mp e)
    refine ⟨_, rfl, _, rfl, p, c, pl, ns, n, _, rfl, hp, by omega, by omega, hpl, fun H1 o ys s1 hp1 ho pm => ?_⟩
    have hp1' : PenOk (n + 10) H1 p c ns := hp1.mono (by omega)
    have ly : ys.length = ks.length := by rw [pm.length_eq, lk]
    obtain ⟨l, rfl, hl⟩ := keys_of (ks := ks) (ys := ys) fun y hy => by
      obtain ⟨k', hk', e⟩ := List.mem_map.mp (pm.mem_iff.mp hy)
      exact ⟨k', hk', e.symm⟩
    have lks : 0 < ks.length := List.length_pos_iff.mpr hne
    refine ⟨_, rfl, _, rfl, o, _, rfl, .inl (SqL.of ho), _, _, rfl, p, c, ns, n + 10, _, rfl, hp1', by omega, ?_, ?_, fun H2 i s2 hp2 i0 i1 => ?_⟩
    · split <;> omega
    · split <;> omega
    have i2 : i < 5 := by
      split at i1 <;> omega
    have sx2 : Sx (· = p) H H2 := s1.trans s2
    have ho2 := hp1.lk s2 ho
    obtain ⟨m, rfl⟩ : ∃ m : Nat, i = m := ⟨i.toNat, by omega⟩
    refine ⟨_, rfl, _, rfl, _, rfl, _, _, rfl, rfl, _, rfl, o, _, rfl, SqL.of ho2, fun q nq => ?_⟩
    have hln : l.map kV ≠ [] := fun e => by
      rw [e] at ly
      simp at ly
      omega
    have ec : ((1 : Int) + (m : Int)) = ((1 + m : Nat) : Int) := by omega
    rw [ec]
    have few := cut_few (m := m) hln
    obtain ⟨tos, et, htos⟩ := keys_of (ks := ks) (ys := cutV (l.map kV) (some 1) (some ((1 + m : Nat) : Int))) fun y hy => by
      obtain ⟨k', hk', e⟩ := List.mem_map.mp (cut_mem hy)
      exact ⟨k', hl k' hk', e.symm⟩
    rw [et] at few ⊢
    rw [List.length_map] at few
    have sx3 : Sx (· = p) H (upd H2 q (.lst (tos.map kV))) := sx_new sx2 nq
    have hp3 : PenOk (n + 11) (upd H2 q (.lst (tos.map kV))) p c ns := hp2.new nq
    refine ⟨q, rfl, ⟨_, SqL.of upd_same⟩, fun D nD => ?_⟩
    have pD : p ≠ D := fun e => hp3.pn (by rw [e]; exact nD)
    have cD : c ≠ D := fun e => hp3.cn (by rw [e]; exact nD)
    obtain ⟨kvs0, hp0⟩ := hp3.pd
    have qp : q ≠ p := ne_of upd_same hp0 (by intro z; cases z)
    refine lc_mapL (K := K) (a := q) (xs := tos.map kV) (· = p) (fun i H4 => PenOk (n + 11 + i) H4 p c ns) (fun i x v H4 => ∃ k2 t, v = .ref t ∧ off H4 p t = some (.tup [x, kV k2]) ∧ KeyOk k2) (SqL.of upd_same) qp nD (fun e => pD e.symm) hp3 (fun i H2 o h => h.upd pD cD)
      (fun i _ v H4 H5 e ⟨k2, t, q1, q2, q3⟩ => ⟨k2, t, q1, off_off_sx e _ _ q2, q3⟩) (by rw [List.length_map]; omega) ?_ ?_
    · intro i x H4 hi ⟨acc, hacc⟩ e4 hp4 Q2 k2
      have hil4 : i < tos.length := by
        have := (List.getElem?_eq_some_iff.mp hi).1
        rwa [List.length_map] at this
      refine ⟨_, rfl, _, rfl, _, rfl, p, c, pl, ns, n + 11 + i, _, rfl, hp4, by omega, hp.lk (sx3.trans e4) hpl, hks, by omega, fun H5 v s5 hp5 hv => ⟨(by rw [sizeLine_eq]; show 2 ≤ _; omega), fun t nt => ?_⟩⟩
      obtain ⟨k', hk', rfl⟩ := List.mem_map.mp hv
      have hD5 := s5 _ _ (Ne.symm pD) hacc
      obtain ⟨kvs, hpp⟩ := hp5.pd
      refine k2 _ _ (sx_new s5 nt) (hp5.new nt) ⟨k', t, rfl, ?_, hko k' hk'⟩
      rw [off_ne (ne_of_none hpp nt).symm, off_ne (ne_of_none hD5 nt).symm]
      exact upd_same
    · intro H4 acc e4 hp4 hD hl4 hE
      rw [List.length_map] at hl4 hp4
      have sx4 : Sx (· = p) H H4 := sx3.trans e4
      -- the moves
      have hmv : ∃ ms : List (Key × Key), DaL H4 (ms.map mvd) acc ∧ (∀ m ∈ ms, m.1 ∈ ks ∧ KeyOk m.1 ∧ KeyOk m.2) ∧ ms.length = tos.length := by
        have g : ∀ (i : Nat) v, acc[i]? = some v → ∃ mm : Key × Key, Da H4 (mvd mm) v ∧ mm.1 ∈ ks ∧ KeyOk mm.1 ∧ KeyOk mm.2 := fun i v hv => by
          have hi : i < tos.length := by
            rw [← hl4]
            exact (List.getElem?_eq_some_iff.mp hv).1
          obtain ⟨k2, t, rfl, h2, hk2⟩ := hE i (kV tos[i]) v (by rw [List.getElem?_map, List.getElem?_eq_getElem hi]; rfl) hv
          have h3 : H4 t = some (.tup [kV tos[i], kV k2]) := off_sx (M := fun _ => False) t _ (fun z => z) (off_sx (M := fun _ => False) t _ (fun z => z) h2)
          exact ⟨(tos[i], k2), Da.two h3 (da_kd _) (da_kd _), htos _ (List.getElem_mem hi), hko _ (htos _ (List.getElem_mem hi)), hk2⟩
        obtain ⟨ms, g1, g2⟩ := mvs_of g
        refine ⟨ms, g1, g2, ?_⟩
        have := g1.length
        rw [List.length_map] at this
        omega
      obtain ⟨ms, hms, hmk, lms⟩ := hmv
      refine ⟨D, acc, rfl, .inl ⟨SqL.of hD, fun tm ntm => ?_⟩⟩
      have hp5 : PenOk (n + 16) (upd H4 tm (.tup acc)) p c ns := (hp4.mono (by omega)).new ntm
      have sx5 : Sx (· = p) H (upd H4 tm (.tup acc)) := sx_new sx4 ntm
      have hmd : Da (upd H4 tm (.tup acc)) (.tuple (ms.map mvd)) (.ref tm) := Da.tup.mpr ⟨tm, acc, rfl, upd_same, hms.kp (Kp.of (same_new ntm))⟩
      have his : is.map V.int ≠ [] := fun e => hi0 (List.map_eq_nil_iff.mp e)
      have lis : (is.map V.int).length ≤ 1000 := by rw [List.length_map]; omega
      refine ⟨_, rfl, _, rfl, p, c, pt, ns, n + 16, _, rfl, hp5, by omega, hp.lk sx5 hpt, his, lis, fun H6 va s6 hp6 hva => ?_⟩
      obtain ⟨ia, _, rfl⟩ := List.mem_map.mp hva
      have sx6 := sx5.trans s6
      have ho6 := hp1.lk (s2.trans ((Sx.ofSame (same_new nq)).trans (e4.trans ((Sx.ofSame (same_new ntm)).trans s6)))) ho
      obtain ⟨l0, lr, rfl⟩ : ∃ l0 lr, l = l0 :: lr := by
        cases l with
        | nil => exact absurd rfl hln
        | cons l0 lr => exact ⟨l0, lr, rfl⟩
      refine ⟨_, rfl, _, rfl, _, rfl, o, _, _, _, rfl, rfl, SqL.of ho6, at0 _ _, p, c, pl, ns, n + 17, ks, l0, rfl, hp6, by omega, hp.lk sx6 hpl, hne, by omega, hl l0 (List.mem_cons_self ..), hko, fun H7 xd dd s7 hp7 hdd ld td => ?_⟩
      have sx7 := sx6.trans s7
      refine ⟨_, rfl, _, rfl, _, rfl, p, c, pt, ns, n + 29, _, rfl, hp7, by omega, hp.lk sx7 hpt, his, lis, fun H8 vb s8 hp8 hvb => ⟨(by rw [sizeLine_eq]; show 4 ≤ _; omega), fun t nt => ?_⟩⟩
      obtain ⟨ib, hibm, rfl⟩ := List.mem_map.mp hvb
      have s9 := same_new (o := .tup [.int ia, xd, .ref tm, .int ib]) nt
      have hdd8 := (hdd.kp (hp7.kp s8)).kp (Kp.of s9)
      have hmd8 := (((hmd.kp (hp5.kp s6)).kp (hp6.kp s7)).kp (hp7.kp s8)).kp (Kp.of s9)
      refine k _ _ ⟨ia, dd, ms, ib⟩ (sx_new (sx7.trans s8) nt) ((hp8.new nt).mono (by omega)) (Da.tup.mpr ⟨t, _, rfl, upd_same, DaL.cons.mpr ⟨_, _, rfl, Da.int.mpr rfl, DaL.cons.mpr ⟨_, _, rfl, hdd8, DaL.cons.mpr ⟨_, _, rfl, hmd8, DaL.cons.mpr ⟨_, _, rfl, Da.int.mpr rfl, DaL.nil.mpr rfl⟩⟩⟩⟩⟩) ⟨ld, td, hmk, ?_, hib ib hibm⟩
      show ms.length ≤ 5
      omega
end
end K48

namespace K48
open PySem PySem.Spec PyProof.Rows L2
theorem asT_step (s : Sp1) : asT s.d = s.d := by
  have e := asT_moves s.moves
  rw [asT] at e
  simp only [Sp1.d, asT, asTL, asT_deed]
  rw [PyData.tuple.inj e]
theorem da_ktS {H H' : Hp} {s : Sp1} {x : V} (e : Kt H H') (h : Da H s.d x) : Da H' s.d x := by
  rw [← asT_step] at h ⊢
  exact da_kt e h
theorem daL_ktS {H H' : Hp} (e : Kt H H') : ∀ {ss : List Sp1} {xs : List V}, DaL H (ss.map Sp1.d) xs → DaL H' (ss.map Sp1.d) xs
  | [], _, h => DaL.nil.mpr (DaL.nil.mp h)
  | s :: r, _, h => by
    obtain ⟨v, vs, rfl, h1, h2⟩ := DaL.cons.mp h
    exact DaL.cons.mpr ⟨v, vs, rfl, da_ktS e h1, daL_ktS e h2⟩
/-- tuples and instances stay where the pen and a list are changed -/
theorem kt_two {H H' : Hp} {p F : Addr} {kvs : List (Key × V)} {xs : List V} (hp : H p = some (.dK kvs)) (hF : H F = some (.lst xs)) (e : Sx (fun b => b = p ∨ b = F) H H') : Kt H H' := by
  have go : ∀ b o, H b = some o → (∀ kvs, o ≠ .dK kvs) → (∀ xs, o ≠ .lst xs) → H' b = some o := fun b o q h1 h2 => e b o (by
    rintro (z | z)
    · rw [z, hp] at q
      cases q
      exact h1 _ rfl
    · rw [z, hF] at q
      cases q
      exact h2 _ rfl) q
  exact ⟨fun a xs q => go a _ q (fun _ z => by cases z) (fun _ z => by cases z), fun a C dx fs q => go a _ q (fun _ z => by cases z) (fun _ z => by cases z)⟩
section
variable {P : Program} {w : World} {K : PySem.W.Frag} {mg : Str → Option Value} {base : Heap}
def spSomeSteps : Sp := fun vs H Q _ => ∃ (p c pl : Addr) (ns : List Int) (n : Nat) (ks : List Key), vs = [.ref p, .ref pl] ∧ PenOk n H p c ns ∧ n + 800 ≤ 1000000 ∧ H pl = some (.lst (ks.map kV)) ∧ ks ≠ [] ∧ ks.length ≤ 10 ∧ (∀ k ∈ ks, KeyOk k) ∧
  ∀ H' f xs ss, Sx (· = p) H H' → PenOk (n + 800) H' p c ns → H' f = some (.lst xs) → DaL H' (ss.map Sp1.d) xs → (∀ s ∈ ss, StepIn ks s) → ss ≠ [] → ss.length ≤ 18 → Q (.ref f) H'
abbrev nST : List Str := ["_law_pen_here", "_law_places", "_law_points", "_law_found", "_law_lap", "_law_step", "_law_other"]
theorem sc_some_steps : FnScope nST ["_law_pen_here", "_law_places"] (defScope s__law_some_steps) := ⟨rfl, rfl, rfl, by decide +kernel, rfl, by decide +kernel, by decide +kernel⟩
theorem ca_some_steps (T : Tx K mg) : Ca P w K mg base CX0 7 "_law_some_steps" spSomeSteps := by
  refine ca0 T.f_q_some_steps T.m_q_some_steps sc_some_steps (fun _ _ _ _ _ _ us hl => match us, hl with | [_, _], _ => rfl) (fun vs H Q E h => ?_) (fun cdv A outer s H vs Q E hr h => ?_)
  · obtain ⟨p, c, pl, ns, n, ks, rfl, _⟩ := h
    rfl
  · obtain ⟨p, c, pl, ns, n, ks, rfl, hp, hn, hpl, hne, hkl, hko, k⟩ := h
    have c1 := ca_draw (P := P) (w := w) (base := base) T
    have c2 := ca_some_step (P := P) (w := w) (base := base) T
    refine ⟨_, pss_cons (ps_par (i := 2) (j := 3) (by rfl) sc_some_steps.nd rfl rfl (by decide) rfl rfl (pa_cons (pe_listRg rfl (by rfl) T.z_list (prg_1 (by rfl) T.z_range (pe_op op_add pe_int (pe_ca c1 hr (pa_cons (pv 0) (pa_cons pe_int pa_nil)))))) (pa_cons (pe_lst pa_nil) pa_nil)) (by rfl))
      (pss_cons (ps_for PassesOwn.never rfl (pi_range1 (by rfl) T.z_range (pa_cons (pe_op op_add pe_int (pe_ca c1 hr (pa_cons (pv 0) (pa_cons pe_int pa_nil)))) pa_nil)) (pg_name (i := 4) sc_some_steps.nd rfl (Or.inl rfl))
        (pss_cons (ps_set (i := 5) sc_some_steps.nd rfl (Or.inl rfl) (pe_ca c2 hr (pa_cons (pv 0) (pa_cons (pv 2) (pa_cons (pv 1) pa_nil)))))
        (pss_cons (ps_expr (pe_bm PySem.F.plainAttrs_list PySem.F.slot_list_append PySem.F.type_list_append mt_append (pv 3) (pa_cons (pv 5) pa_nil)))
        (pss_one (ps_if (PW.pt (pw_and (pt_cmpR op_eq (pe_ix ix_tup (pe_ix ix_tup (pv 5) pe_int (fun _ _ => rfl)) pe_int (fun _ _ => rfl)) pe_str (nomark _)) (pw_and1 (pt_cmpR op_gt (pe_ca c1 hr (pa_cons (pv 0) (pa_cons pe_int pa_nil))) pe_int (nomark _)))))
          (pss_cons (ps_set (i := 6) sc_some_steps.nd rfl (Or.inl rfl) (pe_ca c2 hr (pa_cons (pv 0) (pa_cons (pv 2) (pa_cons (pv 1) pa_nil)))))
          (pss_one (ps_expr (pe_bm PySem.F.plainAttrs_list PySem.F.slot_list_append PySem.F.type_list_append mt_append (pv 3) (pa_cons (pe_tup (pa_cons (pe_ix ix_tup (pv 5) pe_int (fun _ _ => rfl)) (pa_cons (pe_tup (pa_cons pe_str (pa_cons (pe_ix ix_tup (pe_ix ix_tup (pv 5) pe_int (fun _ _ => rfl)) pe_int (fun _ _ => rfl)) (pa_cons (pe_not (pe_ix ix_tup (pe_ix ix_tup (pv 5) pe_int (fun _ _ => rfl)) pe_int (fun _ _ => rfl))) pa_nil)))) (pa_cons (pe_ix ix_tup (pv 5) pe_int (fun _ _ => rfl)) (pa_cons (pe_ix ix_tup (pv 6) pe_int (fun _ _ => rfl)) pa_nil))))) pa_nil))))) pss_nil)))))
      (pss_one (ps_ret (pv 3)))), ?_⟩
    refine ⟨_, rfl, p, c, ns, n, 5, rfl, hp, by omega, by omega, by omega, fun H1 i1 s1 hp1 i10 i11 => ⟨_, _, rfl, rfl, _, rfl, .of_le (by omega) (by omega) (by omega) (by omega), ?_⟩⟩
    have rg : rgV 0 (1 + i1) = ((List.range ((1 + i1) - 0).toNat).map fun i => ((0 : Int) + (i : Nat))).map V.int := by
      unfold rgV
      rw [List.map_map]
      rfl
    generalize hw : ((List.range ((1 + i1) - 0).toNat).map fun i => ((0 : Int) + (i : Nat))) = is at rg
    have lis : is.length = ((1 + i1) - 0).toNat := by rw [← hw, List.length_map, List.length_range]
    rw [rg]
    refine fun pt npt => ⟨Nat.zero_le _, fun F nF => ⟨_, _, rfl, ?_⟩⟩
    have hib : ∀ i ∈ is, i.natAbs ≤ 9 := fun i hi => by
      rw [← hw] at hi
      obtain ⟨j, hj, rfl⟩ := List.mem_map.mp hi
      have := List.mem_range.mp hj
      omega
    have his : is ≠ [] := fun e => by
      rw [e] at lis
      simp at lis
      omega
    have sx1 : Sx (· = p) H (upd H1 pt (.lst (is.map V.int))) := sx_new s1 npt
    have hp2 : PenOk (n + 1) (upd H1 pt (.lst (is.map V.int))) p c ns := hp1.new npt
    have sx2 : Sx (· = p) H (upd (upd H1 pt (.lst (is.map V.int))) F (.lst [])) := sx_new sx1 nF
    have hp3 : PenOk (n + 1) (upd (upd H1 pt (.lst (is.map V.int))) F (.lst [])) p c ns := hp2.new nF
    have nFH : H F = none := by
      cases q : H F with
      | none => rfl
      | some o =>
        exfalso
        by_cases z : F = p
        · exact hp2.pn (by rw [← z]; exact nF)
        · rw [sx1 _ _ z q] at nF
          cases nF
    have ptF : pt ≠ F := ne_of_none upd_same nF
    have hpt3 : (upd (upd H1 pt (.lst (is.map V.int))) F (.lst [])) pt = some (.lst (is.map V.int)) := by
      rw [upd_ne ptF]
      exact upd_same
    refine ⟨_, rfl, p, c, ns, n + 1, 9, rfl, hp3, by omega, by omega, by omega, fun H4 i2 s4 hp4 i20 i21 => ⟨_, _, rfl, rfl, _, rfl, by omega, by omega, ?_⟩⟩
    have sx4 : Sx (· = p) H H4 := sx2.trans s4
    have hF4 : H4 F = some (.lst []) := hp3.lk s4 upd_same
    have hpt4 := hp3.lk s4 hpt3
    obtain ⟨kvs0, hp00⟩ := hp.pd
    have pF : p ≠ F := fun e => by
      rw [← e, hp00] at nFH
      cases nFH
    have cF : c ≠ F := fun e => hp.cn (by rw [e]; exact nFH)
    have plF : pl ≠ F := ne_of_none hpl nFH
    refine for_range (fun i σ H5 => ∃ (v4 v5 v6 : Option V) (xs : List V) (ss : List Sp1), σ = [some (.ref p), some (.ref pl), some (.ref pt), some (.ref F), v4, v5, v6] ∧ Sx (fun b => b = p ∨ b = F) H H5 ∧ PenOk (n + 2 + 81 * i) H5 p c ns ∧ H5 F = some (.lst xs) ∧ H5 pt = some (.lst (is.map V.int)) ∧
        DaL H5 (ss.map Sp1.d) xs ∧ (∀ s ∈ ss, StepIn ks s) ∧ i ≤ ss.length ∧ ss.length ≤ 2 * i)
      ⟨none, none, none, [], [], rfl, fun b o nb q => sx4 b o (fun e => nb (.inl e)) q, hp4, hF4, hpt4, DaL.nil.mpr rfl, fun s h => by simp at h, Nat.le_refl _, Nat.le_refl _⟩ ?_ ?_
    · rintro i σ H5 hi ⟨v4, v5, v6, xs, ss, rfl, s5, hp5, hF5, hpt5, hx5, hin, l1, l2⟩
      have hi9 : i < 9 := by omega
      have lx := hx5.length
      rw [List.length_map] at lx
      have hpl5 : H5 pl = some (.lst (ks.map kV)) := s5 _ _ (by
        rintro (z | z)
        · rw [z, hp00] at hpl
          cases hpl
        · exact plF z) hpl
      refine ⟨_, rfl, _, rfl, _, rfl, p, c, pt, pl, ns, n + 2 + 81 * i, is, ks, rfl, hp5, by omega, hpt5, his, by omega, hib, hpl5, hne, hkl, hko, fun H6 x z s6 hp6 hz zin => ?_⟩
      have hF6 := hp5.lk s6 hF5
      have hpt6 := hp5.lk s6 hpt5
      have hpl6 := hp5.lk s6 hpl5
      have hx6 := hx5.kp (hp5.kp s6)
      refine ⟨_, rfl, .inl ⟨rfl, _, SqL.of hF6⟩, _, rfl, F, _, _, rfl, rfl, hF6, by rw [sizeLine_eq]; omega, ?_⟩
      have s6' : Sx (fun b => b = p ∨ b = F) H (upd H6 F (.lst (xs ++ [x]))) := (s5.trans fun b o nb q => s6 b o (fun e => nb (.inl e)) q).at (.inr rfl)
      have hp7 : PenOk (n + 2 + 81 * i + 40) (upd H6 F (.lst (xs ++ [x]))) p c ns := hp6.upd pF cF
      obtain ⟨kvs6, hp66⟩ := hp6.pd
      have kt67 : Kt H6 (upd H6 F (.lst (xs ++ [x]))) := kt_two hp66 hF6 ((Sx.refl _ _).at (.inr rfl))
      have hx7 : DaL (upd H6 F (.lst (xs ++ [x]))) ((ss ++ [z]).map Sp1.d) (xs ++ [x]) := by
        refine daL_ktS kt67 ?_
        rw [List.map_append]
        exact hx6.snoc hz
      have hin7 : ∀ s ∈ ss ++ [z], StepIn ks s := fun s hs => by
        rcases List.mem_append.mp hs with hs | hs
        · exact hin s hs
        · rw [List.mem_singleton.mp hs]
          exact zin
      have hz7 := da_ktS kt67 hz
      have ne' : ∀ {b : Addr} {o : HO}, H6 b = some o → b ≠ F → (upd H6 F (.lst (xs ++ [x]))) b = some o := fun q n => by
        rw [upd_ne n]
        exact q
      have ptF' : (upd H6 F (.lst (xs ++ [x]))) pt = some (.lst (is.map V.int)) := ne' hpt6 ptF
      have plF' : (upd H6 F (.lst (xs ++ [x]))) pl = some (.lst (ks.map kV)) := ne' hpl6 plF
      obtain ⟨a, dv, mv, rfl, ha, hdd, hm⟩ := step_da hz7
      have done : (∃ (v4 v5 v6 : Option V) (xs' : List V) (ss' : List Sp1), [some (V.ref p), some (.ref pl), some (.ref pt), some (.ref F), some (.int (0 + (i : Int))), some (.ref a), (none : Option V)] = [some (V.ref p), some (.ref pl), some (.ref pt), some (.ref F), v4, v5, v6] ∧ True) := ⟨_, _, _, [], [], rfl, True.intro⟩
      obtain ⟨sst, sd, sm, sf⟩ := z
      have stop : ∀ (v6 : Option V) (H8 : Hp), Sx (· = p) (upd H6 F (.lst (xs ++ [V.ref a]))) H8 → PenOk (n + 2 + 81 * (i + 1)) H8 p c ns →
          ∃ (v4 v5 v6' : Option V) (xs' : List V) (ss' : List Sp1), [some (V.ref p), some (.ref pl), some (.ref pt), some (.ref F), some (.int (0 + (i : Int))), some (.ref a), v6] = [some (V.ref p), some (.ref pl), some (.ref pt), some (.ref F), v4, v5, v6'] ∧ Sx (fun b => b = p ∨ b = F) H H8 ∧ PenOk (n + 2 + 81 * (i + 1)) H8 p c ns ∧ H8 F = some (.lst xs') ∧ H8 pt = some (.lst (is.map V.int)) ∧
            DaL H8 (ss'.map Sp1.d) xs' ∧ (∀ s ∈ ss', StepIn ks s) ∧ i + 1 ≤ ss'.length ∧ ss'.length ≤ 2 * (i + 1) := fun v6 H8 s8 hp8 =>
        ⟨_, _, v6, xs ++ [V.ref a], ss ++ [⟨sst, sd, sm, sf⟩], rfl, s6'.trans fun b o nb q => s8 b o (fun e => nb (.inl e)) q, hp8, hp7.lk s8 upd_same, hp7.lk s8 ptF', hx7.kp (hp7.kp s8), hin7, by rw [List.length_append]; simp; omega, by rw [List.length_append]; simp; omega⟩
      cases sd with
      | set t v =>
        obtain ⟨b, ys, rfl, hb, h3⟩ := Da.tup.mp hdd
        obtain ⟨v1, r1, rfl, e1, h4⟩ := DaL.cons.mp h3
        obtain rfl := Da.str.mp e1
        exact ⟨_, rfl, a, _, _, _, rfl, rfl, SqT.of ha, at1 _ _ _, b, _, _, _, rfl, rfl, SqT.of hb, at0 _ _, rfl, _, rfl, if_f (sne "set" "test") (if_f rfl (stop v6 _ (Sx.refl _ _) (hp7.mono (by omega))))⟩
      | skip =>
        obtain ⟨b, ys, rfl, hb, h3⟩ := Da.tup.mp hdd
        obtain ⟨v1, r1, rfl, e1, h4⟩ := DaL.cons.mp h3
        obtain rfl := Da.str.mp e1
        exact ⟨_, rfl, a, _, _, _, rfl, rfl, SqT.of ha, at1 _ _ _, b, _, _, _, rfl, rfl, SqT.of hb, at0 _ _, rfl, _, rfl, if_f (sne "skip" "test") (if_f rfl (stop v6 _ (Sx.refl _ _) (hp7.mono (by omega))))⟩
      | give o =>
        obtain ⟨b, ys, rfl, hb, h3⟩ := Da.tup.mp hdd
        obtain ⟨v1, r1, rfl, e1, h4⟩ := DaL.cons.mp h3
        obtain rfl := Da.str.mp e1
        exact ⟨_, rfl, a, _, _, _, rfl, rfl, SqT.of ha, at1 _ _ _, b, _, _, _, rfl, rfl, SqT.of hb, at0 _ _, rfl, _, rfl, if_f (sne "give" "test") (if_f rfl (stop v6 _ (Sx.refl _ _) (hp7.mono (by omega))))⟩
      | test pr bb =>
        obtain ⟨b, ys, rfl, hb, h3⟩ := Da.tup.mp hdd
        obtain ⟨v1, r1, rfl, e1, h4⟩ := DaL.cons.mp h3
        obtain rfl := Da.str.mp e1
        obtain ⟨v2, r2, rfl, e2, h5⟩ := DaL.cons.mp h4
        obtain ⟨v3, r3, rfl, e3, h6⟩ := DaL.cons.mp h5
        obtain rfl := Da.bool.mp e3
        refine ⟨_, rfl, a, _, _, _, rfl, rfl, SqT.of ha, at1 _ _ _, b, _, _, _, rfl, rfl, SqT.of hb, at0 _ _, rfl, _, rfl, if_t (decide_eq_true rfl) ?_⟩
        refine ⟨_, rfl, p, c, ns, n + 2 + 81 * i + 40, 4, rfl, hp7, by omega, by omega, by omega, fun H8 i3 s8 hp8 i30 i31 => ⟨_, _, rfl, rfl, _, rfl, ?_⟩⟩
        refine if_b (fun q => ?_) fun q => ?_
        · have kp78 := hp7.kp s8
          have ptF8 := hp7.lk s8 ptF'
          have plF8 := hp7.lk s8 plF'
          have hF8 := hp7.lk s8 (upd_same (H := H6) (a := F) (o := .lst (xs ++ [.ref a])))
          refine ⟨_, rfl, _, rfl, _, rfl, p, c, pt, pl, ns, n + 2 + 81 * i + 41, is, ks, rfl, hp8, by omega, ptF8, his, by omega, hib, plF8, hne, hkl, hko, fun H9 y z2 s9 hp9 hz2 zin2 => ?_⟩
          have kp79 := kp78.trans (hp8.kp s9)
          have hF9 := hp8.lk s9 hF8
          have ha9 := kp79.t _ _ ha
          have hb9 := kp79.t _ _ hb
          obtain ⟨a2, dv2, mv2, rfl, ha2, _, _⟩ := step_da hz2
          refine ⟨_, rfl, .inl ⟨rfl, _, SqL.of hF9⟩, _, rfl, a, _, _, _, rfl, rfl, SqT.of ha9, at0 _ _, ?_⟩
          refine ⟨_, rfl, a, _, _, _, rfl, rfl, SqT.of ha9, at1 _ _ _, b, _, _, _, rfl, rfl, SqT.of hb9, at1 _ _ _, _, rfl, a, _, _, _, rfl, rfl, SqT.of ha9, at1 _ _ _, b, _, _, _, rfl, rfl, SqT.of hb9, at2 _ _ _ _, _, rfl, (by rw [sizeLine_eq]; show 3 ≤ _; omega), fun t nt => ?_⟩
          have s10 := same_new (o := .tup [.str "test", v2, .bl (!bb)]) nt
          refine ⟨_, rfl, a, _, _, _, rfl, rfl, SqT.of (s10 _ _ ha9), at2 _ _ _ _, _, rfl, a2, _, _, _, rfl, rfl, SqT.of (s10 _ _ ha2), at3 _ _ _ _ _, (by rw [sizeLine_eq]; show 4 ≤ _; omega), fun t2 nt2 => ?_⟩
          have s11 := same_new (o := .tup [.int sst, .ref t, mv, .int z2.fin]) nt2
          have s911 := s10.trans s11
          refine ⟨F, _, _, rfl, rfl, s911 _ _ hF9, by rw [sizeLine_eq, List.length_append]; show xs.length + 1 < _; omega, ?_⟩
          have hp11 : PenOk (n + 2 + 81 * i + 81) _ p c ns := hp9.same s911
          obtain ⟨kvs11, hp11d⟩ := hp11.pd
          have kt12 := kt_two hp11d (s911 _ _ hF9) ((Sx.refl _ _).at (p := F) (o := .lst (xs ++ [V.ref a] ++ [.ref t2])) (.inr rfl))
          have htt : t ≠ t2 := fun e => by
            rw [← e, upd_same] at nt2
            cases nt2
          have hnew : Da (upd (upd H9 t (.tup [.str "test", v2, .bl (!bb)])) t2 (.tup [.int sst, .ref t, mv, .int z2.fin])) (Sp1.d ⟨sst, .test pr (!bb), sm, z2.fin⟩) (.ref t2) := by
            refine Da.tup.mpr ⟨t2, _, rfl, upd_same, DaL.cons.mpr ⟨_, _, rfl, Da.int.mpr rfl, DaL.cons.mpr ⟨_, _, rfl, ?_, DaL.cons.mpr ⟨_, _, rfl, (hm.kp kp79).kp (Kp.of s911), DaL.cons.mpr ⟨_, _, rfl, Da.int.mpr rfl, DaL.nil.mpr rfl⟩⟩⟩⟩⟩
            exact Da.three (by rw [upd_ne htt]; exact upd_same) (Da.str.mpr rfl) ((e2.kp kp79).kp (Kp.of s911)) (Da.bool.mpr rfl)
          refine ⟨_, _, _, xs ++ [V.ref a] ++ [.ref t2], ss ++ [⟨sst, .test pr bb, sm, sf⟩] ++ [⟨sst, .test pr (!bb), sm, z2.fin⟩], rfl, ?_, (hp11.upd pF cF).mono (by omega), upd_same, ?_, ?_, ?_, ?_, ?_⟩
          · refine Sx.at (fun b o nb q => ?_) (.inr rfl)
            exact s911 _ _ (s9 _ _ (fun e => nb (.inl e)) (s8 _ _ (fun e => nb (.inl e)) (s6' b o nb q)))
          · rw [upd_ne ptF]
            exact s911 _ _ (hp8.lk s9 ptF8)
          · refine daL_ktS kt12 ?_
            rw [List.map_append]
            exact ((hx7.kp kp79).kp (Kp.of s911)).snoc hnew
          · intro s hs
            rcases List.mem_append.mp hs with hs | hs
            · exact hin7 s hs
            · rw [List.mem_singleton.mp hs]
              exact ⟨zin.l, True.intro, zin.m, zin.n, zin2.f⟩
          · rw [List.length_append, List.length_append]
            simp
            omega
          · rw [List.length_append, List.length_append]
            simp
            omega
        · exact stop v6 H8 s8 (hp8.mono (by omega))
    · rintro σ H5 ⟨v4, v5, v6, xs, ss, rfl, s5, hp5, hF5, hpt5, hx5, hin, l1, l2⟩
      refine ⟨_, rfl, k H5 F xs ss (fun b o nb q => s5 b o (fun e => ?_) q) (hp5.mono (by omega)) hF5 hx5 hin (fun e => ?_) (by omega)⟩
      · rcases e with e | e
        · exact nb e
        · rw [e, nFH] at q
          cases q
      · rw [e] at l1
        simp at l1
        omega
end
end K48

namespace K48
open PySem PySem.Spec PyProof.Rows L2
/-! ### repr of data -/
def rRepr (K : PySem.W.Frag) : List V → Hp → VK → Prop := fun xs H Q => ∃ (d : PyData) (x : V), xs = [x] ∧ Dp K H x d ∧ isDisplay d = true ∧ d.showable = true ∧ d.hasDict = false ∧ d.depth ≤ 60 ∧ d.shown.length ≤ sizeLine ∧ Q (.str d.shown) H
theorem call_reprD {X : Cx} (hg : X.A.guards = some []) (hu : X.A.units + 64 < cLine) : CallR X (.builtin "repr") (rRepr X.K) := by
  intro pins s σ H xs us Q I r h
  obtain ⟨d, x, rfl, hd, hi, hs, hnd, hdp, hsz, q⟩ := h
  obtain ⟨u, rfl, ru⟩ := Vals.one r
  obtain ⟨as, r1⟩ := Dp.reads I d x u hd ru
  obtain ⟨a, rfl⟩ := isRef_of_reads r1 hi
  exact repr_of_reads' r1 hs (PyData.noDict_hsm hnd) hg (by omega) (fun _ _ e => e) (fun h' u tk hk => ⟨.str d.shown, H, I.kept (t' := tk) hk, ⟨_, rfl⟩, q⟩) hsz
/-! ### how long a repr is -/
mutual
def sbd : PyData → Nat
  | .none => 4
  | .bool _ => 5
  | .int _ => 1921
  | .str s => (reprText s).length
  | .list ds => 6 + sbdL ds
  | .tuple ds => 6 + sbdL ds
  | .dict kvs => (PyData.dict kvs).shown.length
def sbdL : List PyData → Nat
  | [] => 0
  | d :: ds => sbd d + 2 + sbdL ds
end
theorem sum_lens : ∀ ds : List PyData, (∀ d ∈ ds, d.shown.length ≤ sbd d) → ((PyData.shownAll ds).map (·.length)).sum + 2 * (PyData.shownAll ds).length ≤ sbdL ds
  | [], _ => Nat.le_refl _
  | d :: ds, h => by
    have h1 := h d (List.mem_cons_self ..)
    have h2 := sum_lens ds fun d hd => h d (List.mem_cons_of_mem _ hd)
    rw [PyData.shownAll, List.map_cons, List.sum_cons, List.length_cons, sbdL]
    omega
mutual
theorem shown_le : ∀ d : PyData, d.showable = true → d.shown.length ≤ sbd d
  | .none, _ => by
    show (Str.ofString "None").length ≤ 4
    decide
  | .bool b, _ => by
    cases b
    · show (Str.ofString "False").length ≤ 5
      decide
    · show (Str.ofString "True").length ≤ 5
      decide
  | .int i, h => by
    have h' : i.natAbs.log2 < 1920 := of_decide_eq_true h
    exact int_text_len_1921 h'
  | .str s, _ => Nat.le_refl _
  | .list ds, h => by
    have h1 := listText_len_le (PyData.shownAll ds)
    have h2 := sum_lens ds (shown_leAll ds h)
    rw [PyData.shown, sbd]
    omega
  | .tuple ds, h => by
    have h1 := tupleText_len_le (PyData.shownAll ds)
    have h2 := sum_lens ds (shown_leAll ds h)
    rw [PyData.shown, sbd]
    omega
  | .dict kvs, _ => Nat.le_refl _
theorem shown_leAll : ∀ ds : List PyData, PyData.showableAll ds = true → ∀ d ∈ ds, d.shown.length ≤ sbd d
  | [], _, d, h => by simp at h
  | d :: ds, h, e, he => by
    obtain ⟨h1, h2⟩ := Bool.and_eq_true_iff.mp (show (PyData.showable d && PyData.showableAll ds) = true from h)
    have q1 := shown_le d h1
    have q2 := shown_leAll ds h2
    rcases List.mem_cons.mp he with e1 | he
    · rw [e1]
      exact q1
    · exact q2 e he
end
/-! ### a def whose walk knows that no guard stands around it -/
structure FnG (P : Program) (w : World) (K : PySem.W.Frag) (mg : Str → Option Value) (base : Heap) (CX : CXT) (k : Nat) (f : Addr) (fd : FuncData) (ps : List Str) (sp : Sp) : Prop where
  len : ∀ vs H Q E, sp vs H Q E → vs.length = ps.length
  run : ∀ (A : Around) (outer : List Env) (s : Shared) (H : Hp) (args : Args) (us : List Value) (vs : List V) (Q : VK) (E : XK), Room k A → A.guards = some [] → Env0 P w K mg base A outer s H → BindsTo s fd args (ps.zip us) → Vals vs us → sp vs H Q E →
    codeAny (model P w) A (.call (.ref f) args) (CR CX outer P w H s Q E) s
structure Cg (P : Program) (w : World) (K : PySem.W.Frag) (mg : Str → Option Value) (base : Heap) (k : Nat) (x : Str) (sp : Sp) : Prop where
  ex : ∃ (f : Addr) (fd : FuncData) (ps : List Str), FnG P w K mg base CX0 k f fd ps sp ∧ mg x = some (.ref f) ∧ PySem.W.keepIn K (.ref f) = true ∧ L2.Binds K fd ps []
section
variable {P : Program} {w : World} {K : PySem.W.Frag} {mg : Str → Option Value} {base : Heap}
abbrev BodyG (P : Program) (w : World) (K : PySem.W.Frag) (mg : Str → Option Value) (base : Heap) (N : List Str) (qual : Str) (st : Stmt) (f : Addr) (k : Nat) (sp : Sp) : Prop :=
  ∀ (cdv : Value) (A : Around) (outer : List Env) (s : Shared) (H : Hp) (vs : List V) (Q : VK) (E : XK), Room k (A.deeper (envOfC qual (defScope st) s.heap.objs.size f cdv)) → A.guards = some [] → PySem.W.codeIn K cdv qual = true → sp vs H Q E →
    ∃ t, PSs (cxOf CX0 P w K mg base N qual (defScope st) f cdv A outer s H E).nox (defBody st) t ∧ t { nx := fun _ H' => Q .non H', rt := Q } (L2.start N vs) H
theorem fnG {x : Str} {st : Stmt} {f : Addr} {fd : FuncData} {N ps : List Str} {k : Nat} {sp : Sp} (F : FunD K x x (defArgs st) (defBody st) (defScope st) [] [] f fd) (S : FnScope N ps (defScope st)) (len : ∀ vs H Q E, sp vs H Q E → vs.length = ps.length)
    (hb : BodyG P w K mg base N x st f k sp) : FnG P w K mg base CX0 (k + 1) f fd ps sp := by
  obtain ⟨oc, od, dV, kV, doc, pm, an, cdv, ct, osl, rfl, lk, hcd, _, _⟩ := F.ex
  exact ⟨len, fun A outer s H args us vs Q E hr hg e0 hbd r hsp => LamX.run_ofS lk hcd S hr e0 hbd r (len _ _ _ _ hsp) fun hr' => let ⟨t, h1, h2⟩ := hb cdv A outer s H vs Q E hr' hg hcd hsp; ⟨t, h1.nox, h2⟩⟩
theorem cg0 {x : Str} {st : Stmt} {f : Addr} {N ps : List Str} {k : Nat} {sp : Sp} (F : ∃ fd, FunD K x x (defArgs st) (defBody st) (defScope st) [] [] f fd) (m : mg x = some (.ref f)) (S : FnScope N ps (defScope st)) (b : BindP x x st ps) (len : ∀ vs H Q E, sp vs H Q E → vs.length = ps.length)
    (hb : BodyG P w K mg base N x st f k sp) : Cg P w K mg base (k + 1) x sp := by
  obtain ⟨fd, F⟩ := F
  exact ⟨f, fd, ps, fnG F S len hb, m, F.kp, F.bindsN b⟩
end
theorem pe_cg {X : Cx} {k j : Nat} {x : Str} {sp : Sp} {p pos : Pos} {e : Expr} {es : List Expr} {t : TA} (c : Cg X.prog X.w X.K X.mg X.base k x sp) (hr : Room j X.A) (hgd : X.A.guards = some []) (ha : PA X (e :: es) t) (hk : k ≤ j := by decide) (hg : Gl X x := by rfl)
    (hdb : (x == ("__debug__" : Str)) = false := by decide) (he : starEach (e :: es) X.env = (false, eval e X.env) :: starEach es X.env := by rfl) (hpl : (backTo pos (starEach es X.env)).any (·.1) = false := by rfl) :
    PE X (.Call (.Name x p) (e :: es) [] pos) (tCall sp [] E0 t) := by
  obtain ⟨f, fd, ps, F, hm, kp, b⟩ := c.ex
  refine ⟨fun pins s σ H Q I h => ?_⟩
  refine wpAny_Call_Name_kw (ld_glob I hg hm ?_ hdb)
  refine PySem.W.callWith_K (h₀ := X.base) I.ok.mod.kin kp (thn (ha.run pos pins s σ H _ I h) fun us s1 ⟨vs, H1, I1, r, q⟩ => ⟨I1.kIn, ?_⟩) he hpl
  show wpAny _ _ (call (.ref f) us) _ _ _
  have q' : sp (vs ++ []) H1 Q E0 := q
  rw [List.append_nil] at q'
  have hl : us.length = ps.length := by rw [← r.length]; exact F.len _ _ _ _ q'
  have hb := b s1 us I1.kIn (by simpa using hl)
  refine wpAny_call (codeAny_mono (F.run X.A X.stack s1 H1 ⟨us, []⟩ us vs Q E0 (hr.mono hk) hgd I1.env0 (by simpa using hb) r q') fun r s' hq => ?_)
  cases r with
  | error e => exact hq.elim
  | ok fl =>
    cases fl with
    | ret u => exact I1.after hq
    | next => exact False.elim hq
    | brk => exact False.elim hq
    | cont => exact False.elim hq
end K48

namespace K48
open PySem PySem.Spec PyProof.Rows L2
/-! ### the order of places is one -/
theorem rising_pw : ∀ (l : List Str) (p : Str), risingS p l = true → (p :: l).Pairwise fun a b => a.cps.toList ≤ b.cps.toList
  | [], p, _ => by simp
  | x :: r, p, h => by
    obtain ⟨h1, h2⟩ := Bool.and_eq_true_iff.mp (show (!ltCps x.cps.toList p.cps.toList && risingS x r) = true from h)
    have ih := rising_pw r x h2
    have px : p.cps.toList ≤ x.cps.toList := by
      rw [ltCps_eq] at h1
      have : ¬ x.cps.toList < p.cps.toList := by simpa using h1
      exact List.not_lt.mp this
    refine List.pairwise_cons.mpr ⟨fun y hy => ?_, ih⟩
    rcases List.mem_cons.mp hy with rfl | hy
    · exact px
    · exact List.le_trans px ((List.pairwise_cons.mp ih).1 y hy)
theorem sorted_pw {l : List Str} (h : sortedS l = true) : l.Pairwise fun a b => a.cps.toList ≤ b.cps.toList := by
  cases l with
  | nil => exact List.Pairwise.nil
  | cons p r => exact rising_pw r p h
theorem str_ext {a b : Str} (h : a.cps.toList = b.cps.toList) : a = b := by
  obtain ⟨a⟩ := a
  obtain ⟨b⟩ := b
  have : a = b := Array.toList_inj.mp h
  rw [this]
theorem ordK_one {ks l l' : List Key} (h : OrdK ks l) (h' : OrdK ks l') : l = l' := by
  obtain ⟨ns, ss, rfl, p1, w1, p2, w2⟩ := h
  obtain ⟨ns', ss', rfl, q1, v1, q2, v2⟩ := h'
  have e1 : ns = ns' := List.Perm.eq_of_pairwise (le := (· ≤ ·)) (fun a b _ _ h1 h2 => Int.le_antisymm h1 h2) w1 v1 (p1.trans q1.symm)
  have e2 : ss = ss' := List.Perm.eq_of_pairwise (le := fun a b : Str => a.cps.toList ≤ b.cps.toList) (fun a b _ _ h1 h2 => str_ext (List.le_antisymm h1 h2)) (sorted_pw w2) (sorted_pw v2) (p2.trans q2.symm)
  rw [e1, e2]
/-! ### how large a run's numbers get -/
def Sm (i : Int) : Prop := i.natAbs.log2 < 1920
theorem sm_of {i : Int} (h : i.natAbs < 2 ^ 1920) : Sm i := by
  unfold Sm
  by_cases e : i.natAbs = 0
  · rw [e]
    decide
  · exact (Nat.log2_lt e).mpr h
def small (B : Nat) (h : Held) : Prop := ∀ p ∈ h, p.2.natAbs ≤ B
theorem look_small {B : Nat} {h : Held} (s : small B h) (k : Key) : (look h k).natAbs ≤ B := by
  unfold look look?
  cases q : h.find? fun p => decide (p.1 = k) with
  | none => simp
  | some p =>
    have := s p (List.mem_of_find?_eq_some q)
    simpa using this
theorem opd_small {B : Nat} {h : Held} {o : Opd} (s : small B h) (b : 9 ≤ B) (i : OpIn o) : (o.now h).natAbs ≤ B := by
  cases o with
  | pl k => exact look_small s k
  | num j =>
    obtain ⟨i1, i2⟩ : -9 ≤ j ∧ j ≤ 9 := i
    show j.natAbs ≤ B
    omega
theorem vl_small {B : Nat} {h : Held} {v : Vl} (s : small B h) (b : 9 ≤ B) (l : v.lit) (o : v.ok) : (v.now h).natAbs ≤ 1000 * B := by
  cases v with
  | as a =>
    have := opd_small s b (o := a) l
    show (a.now h).natAbs ≤ _
    omega
  | plus a c =>
    have h1 := opd_small s b l.1
    have h2 := opd_small s b l.2
    show (a.now h + c.now h).natAbs ≤ _
    omega
  | less a c =>
    have h1 := opd_small s b l.1
    have h2 := opd_small s b l.2
    show (a.now h - c.now h).natAbs ≤ _
    omega
  | times a k =>
    have h1 := opd_small s b (o := a) l
    obtain ⟨k1, k2⟩ : -999 ≤ k ∧ k ≤ 999 := o
    show (a.now h * k).natAbs ≤ _
    rw [Int.natAbs_mul]
    have h3 : k.natAbs ≤ 1000 := by omega
    rw [Nat.mul_comm]
    exact Nat.mul_le_mul h3 h1
theorem put_small {B : Nat} {h : Held} {k : Key} {i : Int} (s : small B h) (hi : i.natAbs ≤ B) : small B (put h k i) := fun p hp => by
  rcases mem_put hp with q | rfl
  · exact s p q
  · exact hi
theorem putAll_small {B : Nat} : ∀ {ps : List (Key × Int)} {h : Held}, small B h → (∀ p ∈ ps, p.2.natAbs ≤ B) → small B (putAll h ps)
  | [], _, s, _ => s
  | p :: r, h, s, hp => putAll_small (ps := r) (h := put h p.1 p.2) (put_small s (hp p (List.mem_cons_self ..))) fun q hq => hp q (List.mem_cons_of_mem _ hq)
theorem small_mono {B C : Nat} {h : Held} (s : small B h) (l : B ≤ C) : small C h := fun p hp => Nat.le_trans (s p hp) l
theorem behind_small {B : Nat} {h : Held} {z : Sp1} (s : small B h) (b : 9 ≤ B) (l : z.deed.lit) : small (1000 * B) (behind z h) := by
  refine putAll_small (small_mono s (by omega)) fun p hp => ?_
  rcases List.mem_append.mp hp with q | q
  · obtain ⟨m, _, rfl⟩ := List.mem_map.mp q
    have := look_small s m.2
    show (look h m.2).natAbs ≤ _
    omega
  · obtain ⟨zs, zd, zm, zf⟩ := z
    cases zd with
    | set t v =>
      cases t with
      | none => cases q
      | some k =>
        rw [List.mem_singleton.mp q]
        exact vl_small s b l.1 l.2.1
    | _ => cases q
/-- the places that a run may ever know -/
def keysIn (L : List Key) (h : Held) : Prop := ∀ p ∈ h, p.1 ∈ L
theorem putAll_keys {L : List Key} : ∀ {ps : List (Key × Int)} {h : Held}, keysIn L h → (∀ p ∈ ps, p.1 ∈ L) → keysIn L (putAll h ps)
  | [], _, s, _ => s
  | p :: r, h, s, hp => putAll_keys (ps := r) (h := put h p.1 p.2) (fun q hq => by
      rcases mem_put hq with q' | rfl
      · exact s q q'
      · exact hp p (List.mem_cons_self ..)) fun q hq => hp q (List.mem_cons_of_mem _ hq)
theorem putAll_nodup : ∀ {ps : List (Key × Int)} {h : Held}, (h.map (·.1)).Nodup → ((putAll h ps).map (·.1)).Nodup
  | [], _, n => n
  | p :: r, h, n => putAll_nodup (ps := r) (put_nodup n)
theorem behind_keys {L ks : List Key} {h : Held} {z : Sp1} (s : keysIn L h) (sub : ∀ k ∈ ks, k ∈ L) (i : StepIn ks z) : keysIn L (behind z h) := by
  refine putAll_keys s fun p hp => ?_
  rcases List.mem_append.mp hp with q | q
  · obtain ⟨m, hm, rfl⟩ := List.mem_map.mp q
    exact sub _ (i.m m hm).1
  · have ht := i.t
    obtain ⟨zs, zd, zm, zf⟩ := z
    cases zd with
    | set t v =>
      cases t with
      | none => cases q
      | some k =>
        rw [List.mem_singleton.mp q]
        exact sub _ ht
    | _ => cases q
/-- what stays true along a run -/
structure RunIn (L : List Key) (B : Nat) (r : Run) : Prop where
  s : small B r.held
  k : keysIn L r.held
  n : (r.held.map (·.1)).Nodup
  p : r.point.natAbs ≤ B
  t : r.turns.natAbs ≤ B
  c : r.pieces.natAbs ≤ B
  v : ∀ i, r.value = some i → i.natAbs ≤ B
theorem count_small (z : Sp1) (hn : z.moves.length ≤ 5) : z.count.natAbs ≤ 8 := by
  have h1 := cells_len z.deed.opds
  have h2 := dk_len_le ((z.deed.opds.filterMap Opd.cell?).map Sum.inr) []
  have h3 := List.length_filterMap_le Opd.cell? z.deed.opds
  have h4 := opds_len z.deed
  rw [List.length_map] at h2
  unfold dk at h1
  simp only [List.length_nil, Nat.zero_add] at h2
  unfold Sp1.count
  split <;> omega
theorem next_in {L ks : List Key} {B : Nat} {r : Run} {z : Sp1} (h : RunIn L B r) (b : 9 ≤ B) (sub : ∀ k ∈ ks, k ∈ L) (i : StepIn ks z) : RunIn L (1000 * B) (r.next z) := by
  refine ⟨behind_small h.s b i.l, behind_keys h.k sub i, putAll_nodup h.n, ?_, ?_, ?_, fun j hj => ?_⟩
  · have f := i.f
    show z.fin.natAbs ≤ _
    omega
  · have := h.t
    show (r.turns + 1).natAbs ≤ _
    omega
  · have h1 := h.c
    have h2 := count_small z i.n
    show (r.pieces + z.count).natAbs ≤ _
    omega
  · have il := i.l
    obtain ⟨zs, zd, zm, zf⟩ := z
    cases zd with
    | give o =>
      cases hj
      have := opd_small h.s b (o := o) il
      omega
    | _ => cases hj
theorem run_mono {L : List Key} {B C : Nat} {r : Run} (h : RunIn L B r) (l : B ≤ C) : RunIn L C r := ⟨small_mono h.s l, h.k, h.n, Nat.le_trans h.p l, Nat.le_trans h.t l, Nat.le_trans h.c l, fun i e => Nat.le_trans (h.v i e) l⟩
theorem drive_in {L ks : List Key} {ss : List Sp1} (sub : ∀ k ∈ ks, k ∈ L) (hs : ∀ s ∈ ss, StepIn ks s) : ∀ (n B : Nat) (r : Run), 9 ≤ B → RunIn L B r → RunIn L (1000 ^ n * B) (drive ss n r)
  | 0, B, r, _, h => by
    rw [Nat.pow_zero, Nat.one_mul]
    exact h
  | n + 1, B, r, b, h => by
    have le : B ≤ 1000 ^ (n + 1) * B := Nat.le_mul_of_pos_left B (Nat.pow_pos (by omega))
    unfold drive
    split
    · rename_i z hv hz
      have hm : z ∈ ss := List.mem_of_find?_eq_some hz
      have := drive_in sub hs n (1000 * B) (r.next z) (by omega) (next_in h b sub (hs z hm))
      rw [Nat.pow_succ, Nat.mul_assoc]
      exact this
    · exact run_mono h le
theorem keys_few {L : List Key} {h : Held} (n : (h.map (·.1)).Nodup) (k : keysIn L h) : h.length ≤ L.length := by
  have := List.Nodup.length_le_of_subset n (l₂ := L) fun x hx => by
    obtain ⟨p, hp, rfl⟩ := List.mem_map.mp hx
    exact k p hp
  rwa [List.length_map] at this
/-- what ran_right asks of a run -/
structure RunOk (r : Run) : Prop where
  l : r.held.length < 64
  h : ∀ p ∈ r.held, Sm p.2
  k : ∀ p ∈ r.held, (kd p.1).showable = true ∧ sbd (kd p.1) ≤ 2000
  p : Sm r.point
  t : Sm r.turns
  c : Sm r.pieces
  v : ∀ i, r.value = some i → Sm i
end K48

namespace K48
open PySem PySem.Spec PyProof.Rows L2
/-! ### a run's state may be shown -/
theorem int_bne (i : Int) : (i == i + 1) = false := beq_eq_false_iff_ne.mpr (by omega)
theorem showable_kd (k : Key) (h : (kd k).showable = true) : (kd k).showable = true := h
theorem showAll_iff : ∀ ds : List PyData, PyData.showableAll ds = true ↔ ∀ d ∈ ds, d.showable = true
  | [] => by simp [PyData.showableAll]
  | d :: ds => by
    rw [PyData.showableAll, Bool.and_eq_true, showAll_iff ds]
    simp
theorem pick_mem {α : Type} {x : α} : ∀ {xs : List α} {bs : List Bool}, x ∈ pick xs bs → x ∈ xs
  | [], [], h => h
  | [], _ :: _, h => h
  | _ :: _, [], h => by cases h
  | y :: xs, b :: bs, h => by
    unfold pick at h
    split at h
    · rcases List.mem_cons.mp h with rfl | h
      · exact List.mem_cons_self ..
      · exact List.mem_cons_of_mem _ (pick_mem h)
    · exact List.mem_cons_of_mem _ (pick_mem h)
theorem sbdL_le {n : Nat} : ∀ {ds : List PyData}, (∀ d ∈ ds, sbd d ≤ n) → sbdL ds ≤ ds.length * (n + 2)
  | [], _ => Nat.zero_le _
  | d :: ds, h => by
    have h1 := h d (List.mem_cons_self ..)
    have h2 := sbdL_le (ds := ds) fun d hd => h d (List.mem_cons_of_mem _ hd)
    rw [sbdL, List.length_cons, Nat.add_mul]
    omega
theorem hasDictAll_iff : ∀ ds : List PyData, (∀ d ∈ ds, d.hasDict = false) → PyData.hasDictAll ds = false
  | [], _ => rfl
  | d :: ds, h => by
    rw [PyData.hasDictAll, h d (List.mem_cons_self ..), hasDictAll_iff ds fun d hd => h d (List.mem_cons_of_mem _ hd)]
    rfl
theorem depthAll_le {n : Nat} : ∀ ds : List PyData, (∀ d ∈ ds, d.depth ≤ n) → PyData.depthAll ds ≤ n
  | [], _ => Nat.zero_le _
  | d :: ds, h => by
    have h1 := h d (List.mem_cons_self ..)
    have h2 := depthAll_le ds fun d hd => h d (List.mem_cons_of_mem _ hd)
    rw [PyData.depthAll]
    omega
/-- data that repr tells -/
structure ReOk (d : PyData) : Prop where
  i : isDisplay d = true
  s : d.showable = true
  n : d.hasDict = false
  dp : d.depth ≤ 60
  l : d.shown.length ≤ sizeLine
theorem stD_ok {r : Run} {l : List Key} (h : RunOk r) (o : OrdK (r.held.map (·.1)) l) : ReOk (stD l r) := by
  have hk : ∀ k ∈ l, (kd k).showable = true ∧ sbd (kd k) ≤ 2000 := fun k hk => by
    obtain ⟨p, hp, rfl⟩ := List.mem_map.mp (o.mem hk)
    exact h.k p hp
  have hi : ∀ k ∈ l, Sm (look r.held k) := fun k hk => by
    unfold look look?
    cases q : r.held.find? fun p => decide (p.1 = k) with
    | none =>
      show Sm 0
      unfold Sm
      decide
    | some p => exact h.h p (List.mem_of_find?_eq_some q)
  have row : ∀ d ∈ rowOf l r.held, ∃ k ∈ l, d = .tuple [kd k, .int (look r.held k)] := fun d hd => by
    obtain ⟨k, hk, rfl⟩ := List.mem_map.mp (pick_mem hd)
    exact ⟨k, hk, rfl⟩
  have ll := o.len
  rw [List.length_map] at ll
  have lr : (rowOf l r.held).length ≤ 128 := by
    have := pick_len (l.map fun k => PyData.tuple [kd k, .int (look r.held k)]) (l.map fun k => !decide (look r.held k = 0))
    rw [List.length_map] at this
    have h2 := h.l
    unfold rowOf
    omega
  have sh : (stD l r).showable = true := by
    show PyData.showableAll [.int r.point, .tuple (rowOf l r.held)] = true
    refine (showAll_iff _).mpr fun d hd => ?_
    simp only [List.mem_cons, List.not_mem_nil, or_false] at hd
    rcases hd with rfl | rfl
    · exact decide_eq_true h.p
    · refine (showAll_iff _).mpr fun d hd => ?_
      obtain ⟨k, hk', rfl⟩ := row d hd
      refine (showAll_iff _).mpr fun e he => ?_
      simp only [List.mem_cons, List.not_mem_nil, or_false] at he
      rcases he with rfl | rfl
      · exact (hk k hk').1
      · exact decide_eq_true (hi k hk')
  have kdd : ∀ k : Key, (kd k).hasDict = false := fun k => by cases k <;> rfl
  have kde : ∀ k : Key, (kd k).depth ≤ 1 := fun k => by cases k <;> simp [kd, PyData.depth]
  refine ⟨rfl, sh, ?_, ?_, ?_⟩
  · refine hasDictAll_iff _ fun d hd => ?_
    simp only [List.mem_cons, List.not_mem_nil, or_false] at hd
    rcases hd with rfl | rfl
    · rfl
    · refine hasDictAll_iff _ fun d hd => ?_
      obtain ⟨k, _, rfl⟩ := row d hd
      refine hasDictAll_iff _ fun e he => ?_
      simp only [List.mem_cons, List.not_mem_nil, or_false] at he
      rcases he with rfl | rfl
      · exact kdd k
      · rfl
  · have h1 : PyData.depthAll (rowOf l r.held) ≤ 10 := depthAll_le _ fun d hd => by
      obtain ⟨k, _, rfl⟩ := row d hd
      have := kde k
      simp only [PyData.depth, PyData.depthAll]
      omega
    show (stD l r).depth ≤ 60
    unfold stD
    simp only [PyData.depth, PyData.depthAll]
    omega
  · refine Nat.le_trans (shown_le _ sh) ?_
    have h1 : sbdL (rowOf l r.held) ≤ (rowOf l r.held).length * (4000 + 2) := sbdL_le fun d hd => by
      obtain ⟨k, hk', rfl⟩ := row d hd
      have := (hk k hk').2
      simp only [sbd, sbdL]
      omega
    show sbd (stD l r) ≤ sizeLine
    unfold stD
    simp only [sbd, sbdL]
    rw [sizeLine_eq]
    have : (rowOf l r.held).length * (4000 + 2) ≤ 128 * (4000 + 2) := Nat.mul_le_mul_right _ lr
    omega
theorem three_ok {a b c : Int} (ha : Sm a) (hb : Sm b) (hc : Sm c) : ReOk (.tuple [.int a, .int b, .int c]) := by
  have sh : (PyData.tuple [.int a, .int b, .int c]).showable = true := by
    refine (showAll_iff _).mpr fun d hd => ?_
    simp only [List.mem_cons, List.not_mem_nil, or_false] at hd
    rcases hd with rfl | rfl | rfl
    · exact decide_eq_true ha
    · exact decide_eq_true hb
    · exact decide_eq_true hc
  refine ⟨rfl, sh, rfl, by simp [PyData.depth, PyData.depthAll], Nat.le_trans (shown_le _ sh) ?_⟩
  simp only [sbd, sbdL]
  rw [sizeLine_eq]
  omega
section
variable {P : Program} {w : World} {K : PySem.W.Frag} {mg : Str → Option Value} {base : Heap}
def spRanRight (C CS : Addr) : Sp := fun vs H Q _ => ∃ (cd a b : Addr) (sv : V) (n : Nat) (as : List Addr) (xs ys : List V) (ss : List Sp1) (h : Held) (d : PyData), vs = [.ref cd, .ref a, sv, .ref b, .int n] ∧ CodeS C CS H cd as ss ∧ StepsOk ss ∧ H a = some (.lst xs) ∧ DaL H (ss.map Sp1.d) xs ∧
  Da H d sv ∧ short d ∧ BegOk d h ∧ H b = some (.lst ys) ∧ PrsT H ys h ∧ h.length ≤ 1000 ∧ n ≤ 100 ∧ RunOk (drive ss n (run0 h)) ∧ ∀ H', Same H H' → Q (.bl true) H'
abbrev nRR : List Str := ["_law_code", "_law_steps", "_law_shown", "_law_begin", "_law_turns", "_law_point", "_law_held", "_law_gone", "_law_spent", "_law_value", "_law_told", "_law_others", "_law_other"]
theorem sc_ran_right : FnScope nRR ["_law_code", "_law_steps", "_law_shown", "_law_begin", "_law_turns"] (defScope s__law_ran_right) := ⟨rfl, rfl, rfl, by decide +kernel, rfl, by decide +kernel, by decide +kernel⟩
theorem cg_ran_right (T : Tx K mg) : Cg P w K mg base 9 "_law_ran_right" (spRanRight (He.ga K "Code") (He.ga K "Step")) := by
  refine cg0 T.f_q_ran_right T.m_q_ran_right sc_ran_right (fun _ _ _ _ _ _ us hl => match us, hl with | [_, _, _, _, _], _ => rfl) (fun vs H Q E h => ?_) (fun cdv A outer s H vs Q E hr hg _ h => ?_)
  · obtain ⟨cd, a, b, sv, n, as, xs, ys, ss, h, d, rfl, _⟩ := h
    rfl
  · obtain ⟨cd, a, b, sv, n, as, xs, ys, ss, h, d, rfl, hcd, hok, ha, hx, hd, hsh, hbe, hb, hy, hl, hn, hro, k⟩ := h
    have c1 := ca_driven (P := P) (w := w) (base := base) T
    have c2 := ca_state_after (P := P) (w := w) (base := base) T
    have c3 := ca_held_row (P := P) (w := w) (base := base) T
    have c4 := ca_pieces_after (P := P) (w := w) (base := base) T
    have c5 := ca_run_code (P := P) (w := w) (base := base) T
    have c6 := ma_Ran (P := P) (w := w) (base := base) T
    have c7 := me_Ran_eq (P := P) (w := w) (base := base) T
    have u64 := hr.units
    refine ⟨_, pss_cons (ps_asg (pe_ca c1 hr (pa_cons (pv 1) (pa_cons (pv 3) (pa_cons (pv 4) pa_nil))))
        (pg_tup (by rfl) (pgs_cons (pg_name (i := 5) sc_ran_right.nd rfl (Or.inl rfl)) (pgs_cons (pg_name (i := 6) sc_ran_right.nd rfl (Or.inl rfl)) (pgs_cons (pg_name (i := 7) sc_ran_right.nd rfl (Or.inl rfl)) (pgs_cons (pg_name (i := 8) sc_ran_right.nd rfl (Or.inl rfl)) (pgs_cons (pg_name (i := 9) sc_ran_right.nd rfl (Or.inl rfl)) pgs_nil)))))))
      (pss_cons (ps_if (pt_cmpR op_ne (pe_callB (call_reprD hg u64) (by rfl) T.z_repr (by decide +kernel) (pa_cons (pe_caG c2 hr (pa_cons (pv 0) (pa_cons (pv 2) (pa_cons (pv 4) pa_nil)))) pa_nil)) (pe_callB (call_reprD hg u64) (by rfl) T.z_repr (by decide +kernel) (pa_cons (pe_tup (pa_cons (pv 5) (pa_cons (pe_ca c3 hr (pa_cons (pv 6) pa_nil)) pa_nil))) pa_nil)) (nomark _)) (pss_one ps_never) pss_nil)
      (pss_cons (ps_if (pt_cmpR op_ne (pe_callB SkE.call_repr_int (by rfl) T.z_repr (by decide +kernel) (pa_cons (pe_caG c4 hr (pa_cons (pv 0) (pa_cons (pv 2) (pa_cons (pv 4) pa_nil)))) pa_nil)) (pe_callB SkE.call_repr_int (by rfl) T.z_repr (by decide +kernel) (pa_cons (pv 8) pa_nil)) (nomark _)) (pss_one ps_never) pss_nil)
      (pss_cons (ps_set (i := 10) sc_ran_right.nd rfl (Or.inr rfl) (pe_caG c5 hr (pa_cons (pv 0) (pa_cons (pv 2) (pa_cons (pv 4) pa_nil)))))
      (pss_cons (ps_if (pt_cmpR op_isN (pv 9) pe_non (nomark _)) (pss_one (ps_ret (pe_cmpR op_isN (pv 10) pe_non (nomark _)))) pss_nil)
      (pss_cons (ps_if (PW.pt (pw_or (pt_not (pt_val (pe_callB (C8.call_isC T.i_Ran.i) (by rfl) T.z_isinstance (by decide +kernel) (pa_cons (pv 10) (pa_cons (pe_glob (v := .ref (He.ga K "Ran")) (by rfl) T.m_Ran rfl) pa_nil)))))
          (pw_or1 (pt_cmpR op_ne (pe_callB (call_reprD hg u64) (by rfl) T.z_repr (by decide +kernel) (pa_cons (pe_tup (pa_cons (pe_fld (pv 10) rfl) (pa_cons (pe_fld (pv 10) rfl) (pa_cons (pe_fld (pv 10) rfl) pa_nil)))) pa_nil)) (pe_callB (call_reprD hg u64) (by rfl) T.z_repr (by decide +kernel) (pa_cons (pe_tup (pa_cons (pv 9) (pa_cons (pv 7) (pa_cons (pv 8) pa_nil)))) pa_nil)) (nomark _))))) (pss_one ps_never) pss_nil)
      (pss_cons (ps_set (i := 11) sc_ran_right.nd rfl (Or.inl rfl) (pe_lst (pa_cons (pe_ma c6 hr (pa_cons (pe_op op_add (pv 9) pe_int) (pa_cons (pv 7) (pa_cons (pv 8) pa_nil)))) (pa_cons (pe_ma c6 hr (pa_cons (pv 9) (pa_cons (pe_op op_add (pv 7) pe_int) (pa_cons (pv 8) pa_nil)))) (pa_cons (pe_ma c6 hr (pa_cons (pv 9) (pa_cons (pv 7) (pa_cons (pe_op op_add (pv 8) pe_int) pa_nil)))) pa_nil)))))
      (pss_one (ps_ret (pe_and (pe_cmpR (op_eqI c7 (hr.mono (by decide))) (pv 10) (pe_ma c6 hr (pa_cons (pv 9) (pa_cons (pv 7) (pa_cons (pv 8) pa_nil)))) (nomark _))
        (pe_one (pe_cmpR (op_eqD u64) (pe_lc (own := [("_law_other", 12)]) (g := gName 12) (te := tVar 12) (tt := tTest (tOp (rEqI (He.ga K "Ran") (spRanEq (He.ga K "Ran"))) (tVar 10) (tVar 12))) rfl sc_ran_right.nd (pi_list (pv 11)) (blkOk_by (N := nRR) (sc := defScope s__law_ran_right) (by decide +kernel)) (fun _ _ _ _ _ => pg_name (i := 12) sc_ran_right.nd rfl (Or.inl rfl))
          (fun _ _ _ _ _ => pts_one (pt_cmpR (op_eqI c7 (hr.mono (by decide))) (pv 10) (pv 12) (nomark _))) (fun _ _ _ _ _ => pv 12)) (pe_lst pa_nil) (nomark _)))))))))))), ?_⟩
    obtain ⟨hpl, hbn⟩ := hbe
    generalize er : drive ss n (run0 h) = r at *
    refine ⟨_, rfl, _, rfl, _, rfl, a, b, n, xs, ys, ss, h, rfl, ha, hx, hok, hb, hy, hbn, hl, hn, fun H1 q dh s1 hq hdh => ?_⟩
    rw [er] at hq hdh
    refine ⟨q, _, rfl, SqT.of hq, rfl, _, _, rfl, _, _, rfl, _, _, rfl, _, _, rfl, _, _, rfl, rfl, ?_⟩
    -- state_after
    refine ⟨_, rfl, _, rfl, _, rfl, cd, sv, .int n, d, .int n, as, ss, rfl, hcd.same s1, hok, hd.kp (Kp.of s1), hsh, Da.int.mpr rfl, .inl ⟨h, n, ⟨hpl, hbn⟩, rfl, hn, ?_⟩⟩
    rw [er]
    refine ⟨hro.l, fun H2 y l s2 ho hy2 => ?_⟩
    have ok1 := stD_ok hro ho
    refine ⟨stD l r, y, rfl, hy2.dp, ok1.i, ok1.s, ok1.n, ok1.dp, ok1.l, ?_⟩
    have s12 := s1.trans s2
    refine ⟨_, rfl, _, rfl, dh, r.held, rfl, s2 _ _ hdh, hro.l, fun H3 y3 l3 s3 ho3 hy3 => ?_⟩
    have el : l3 = l := ordK_one ho3 ho
    subst el
    refine ⟨(by rw [sizeLine_eq]; show 2 ≤ _; omega), fun t nt => ?_⟩
    have s4 := same_new (o := .tup [.int r.point, y3]) nt
    refine ⟨stD l3 r, .ref t, rfl, (Da.two upd_same (Da.int.mpr rfl) (hy3.kp (Kp.of s4))).dp, ok1.i, ok1.s, ok1.n, ok1.dp, ok1.l, ?_⟩
    refine ⟨rfl, _, rfl, if_f (by rw [decide_eq_true rfl]; rfl) ?_⟩
    have s14 := s12.trans (s3.trans s4)
    -- pieces_after
    refine ⟨_, rfl, _, rfl, _, rfl, cd, sv, .int n, d, .int n, as, ss, rfl, hcd.same s14, hok, hd.kp (Kp.of s14), hsh, Da.int.mpr rfl, .inl ⟨h, n, ⟨hpl, hbn⟩, rfl, hn, fun H5 s5 => ?_⟩⟩
    rw [er]
    refine ⟨_, rfl, hro.c, _, rfl, _, rfl, hro.c, rfl, _, rfl, if_f (by rw [decide_eq_true rfl]; rfl) ?_⟩
    have s15 := s14.trans s5
    -- run_code
    refine ⟨_, rfl, _, rfl, _, rfl, cd, sv, .int n, d, .int n, as, ss, rfl, hcd.same s15, hok, hd.kp (Kp.of s15), hsh, Da.int.mpr rfl, .inl ⟨h, n, ⟨hpl, hbn⟩, rfl, hn, ?_⟩⟩
    rw [er]
    refine ⟨fun hv H6 s6 => ?_, fun i hv H6 ra s6 hra => ?_⟩
    · rw [hv]
      exact ⟨_, rfl, rfl, _, rfl, if_t rfl ⟨_, rfl, rfl, k H6 (s15.trans s6)⟩⟩
    · rw [hv]
      refine ⟨_, rfl, rfl, _, rfl, if_f rfl ?_⟩
      have s16 := s15.trans s6
      obtain ⟨dra, hra⟩ := hra
      refine ⟨_, rfl, ra, dra, _, rfl, hra, _, rfl, if_f rfl ?_⟩
      have ok3 := three_ok (hro.v i hv) hro.t hro.c
      refine ⟨_, rfl, ra, _, dra, _, _, rfl, hra, T.c_Ran, T.n_Ran_value, ranFs_value, _, rfl, ra, _, dra, _, _, rfl, hra, T.c_Ran, T.n_Ran_turns, ranFs_turns, _, rfl, ra, _, dra, _, _, rfl, hra, T.c_Ran, T.n_Ran_pieces, ranFs_pieces, (by rw [sizeLine_eq]; show 3 ≤ _; omega), fun t1 nt1 => ?_⟩
      have s7 := same_new (o := .tup [.int i, .int r.turns, .int r.pieces]) nt1
      refine ⟨.tuple [.int i, .int r.turns, .int r.pieces], .ref t1, rfl, (Da.three upd_same (Da.int.mpr rfl) (Da.int.mpr rfl) (Da.int.mpr rfl)).dp, ok3.i, ok3.s, ok3.n, ok3.dp, ok3.l, ?_⟩
      refine ⟨_, rfl, _, rfl, _, rfl, (by rw [sizeLine_eq]; show 3 ≤ _; omega), fun t2 nt2 => ?_⟩
      have s8 := same_new (o := .tup [.int i, .int r.turns, .int r.pieces]) nt2
      refine ⟨.tuple [.int i, .int r.turns, .int r.pieces], .ref t2, rfl, (Da.three upd_same (Da.int.mpr rfl) (Da.int.mpr rfl) (Da.int.mpr rfl)).dp, ok3.i, ok3.s, ok3.n, ok3.dp, ok3.l, ?_⟩
      refine ⟨rfl, _, rfl, if_f (by rw [decide_eq_true rfl]; rfl) ?_⟩
      have s18 := s16.trans (s7.trans s8)
      have s68 := s7.trans s8
      -- others
      have mk : ∀ (Hx : Hp) (v t p : Int) (R : Addr → Hp → Prop), (∀ H' x, Same Hx H' → RanAt (He.ga K "Ran") H' x v t p → R x H') → ∀ x dx, Hx x = none → Hx dx = none → dx ≠ x → spRanInit (He.ga K "Ran") (.ref x :: ([.int v, .int t, .int p] ++ [])) (upd (upd Hx dx (.own x)) x (.ins (He.ga K "Ran") dx [])) (fun v H2 => v = .non ∧ R x H2) E0 := by
        intro Hx v t p R kR x dx nx ndx ne
        refine ⟨x, dx, v, t, p, rfl, upd_same, fun H' s' h' => ⟨rfl, kR H' x (fun b o q => s' b o (fun e => by rw [e, nx] at q; cases q) (same_upd (same_new ndx) nx b o q)) ⟨dx, h'⟩⟩⟩
      have ranSame : ∀ {Ha Hb : Hp} {x : Addr} {v t p : Int}, Same Ha Hb → RanAt (He.ga K "Ran") Ha x v t p → RanAt (He.ga K "Ran") Hb x v t p := fun e ⟨dx, q⟩ => ⟨dx, e _ _ q⟩
      refine ⟨_, rfl, _, _, rfl, rfl, _, rfl, _, rfl, mk _ _ _ _ _ fun H9 x1 s9 r1 => ?_⟩
      refine ⟨_, rfl, _, rfl, _, _, rfl, rfl, _, rfl, mk _ _ _ _ _ fun H10 x2 s10 r2 => ?_⟩
      refine ⟨_, rfl, _, rfl, _, rfl, _, _, rfl, rfl, mk _ _ _ _ _ fun H11 x3 s11 r3 => ?_⟩
      refine ⟨(by rw [sizeLine_eq]; show 3 ≤ _; omega), fun L nL => ?_⟩
      have s12' := same_new (o := .lst [.ref x1, .ref x2, .ref x3]) nL
      have sA := s9.trans (s10.trans (s11.trans s12'))
      have hra2 : (upd H11 L (.lst [.ref x1, .ref x2, .ref x3])) ra = some (.ins (He.ga K "Ran") dra (ranFs i r.turns r.pieces)) := sA _ _ (s68 _ _ hra)
      have rr1 := ranSame (s10.trans (s11.trans s12')) r1
      have rr2 := ranSame (s11.trans s12') r2
      have rr3 := ranSame s12' r3
      refine ⟨_, rfl, _, rfl, _, rfl, _, rfl, mk _ _ _ _ _ fun H13 x4 s13 r4 => ?_⟩
      have hra3 := s13 _ _ hra2
      obtain ⟨d4, r4'⟩ := id r4
      refine ⟨ra, x4, dra, d4, _, _, rfl, rfl, hra3, r4', ra, x4, i, r.turns, r.pieces, i, r.turns, r.pieces, rfl, ⟨dra, hra3⟩, r4, fun H14 s14' => ⟨_, rfl, _, rfl, if_t (by simp) ?_⟩⟩
      have hL14 : H14 L = some (.lst [.ref x1, .ref x2, .ref x3]) := s14' _ _ (s13 _ _ upd_same)
      have sB := s13.trans s14'
      refine ⟨_, rfl, L, rfl, ⟨_, SqL.of hL14⟩, fun D nD => ?_⟩
      refine lc_filt (K := K) (a := L) (xs := [.ref x1, .ref x2, .ref x3]) (fun _ => false) (SqL.of hL14) nD (by simp) (by show 12 < 13; omega) ?_ ?_
      · intro j x H15 hj s15' Q2 k2
        have hra15 := s15' _ _ (sB _ _ hra2)
        have ne : ∀ (y : Addr) (v t p : Int), RanAt (He.ga K "Ran") H15 y v t p → x = .ref y → (i == v && (r.turns == t && r.pieces == p)) = false → tTest (tOp (rEqI (He.ga K "Ran") (spRanEq (He.ga K "Ran"))) (tVar 10) (tVar 12)) ((wipe ((((((((L2.start nRR [V.ref cd, V.ref a, sv, V.ref b, V.int ↑n]).set 5 (some (V.int r.point))).set 6 (some (V.ref dh))).set 7 (some (V.int r.turns))).set 8 (some (V.int r.pieces))).set 9 (some (resV (some i)))).set 10 (some (V.ref ra))).set 11 (some (.ref L))) [12]).set 12 (some x)) H15 Q2 := by
          rintro y v t p ⟨dy, hy'⟩ rfl e
          refine ⟨_, rfl, _, rfl, ra, y, dra, dy, _, _, rfl, rfl, hra15, hy', ra, y, i, r.turns, r.pieces, v, t, p, rfl, ⟨dra, hra15⟩, ⟨dy, hy'⟩, fun H16 s16' => ⟨_, rfl, _, rfl, ?_⟩⟩
          rw [e]
          exact k2 H16 s16'
        have m : x = .ref x1 ∨ x = .ref x2 ∨ x = .ref x3 := by
          have := List.mem_of_getElem? hj
          simpa using this
        have sC := sB.trans s15'
        rcases m with rfl | rfl | rfl
        · refine ne x1 _ _ _ (ranSame sC rr1) rfl ?_
          have : (i == i + 1) = false := int_bne _
          rw [this]
          rfl
        · refine ne x2 _ _ _ (ranSame sC rr2) rfl ?_
          have : (r.turns == r.turns + 1) = false := int_bne _
          rw [this]
          simp
        · refine ne x3 _ _ _ (ranSame sC rr3) rfl ?_
          have : (r.pieces == r.pieces + 1) = false := int_bne _
          rw [this]
          simp
      · intro H15 s15' hD
        have ef : ([V.ref x1, V.ref x2, V.ref x3].filter fun _ => false) = [] := rfl
        rw [ef] at hD
        refine ⟨Nat.zero_le _, fun Z nZ => ?_⟩
        have s16' := same_new (o := .lst []) nZ
        have DZ : D ≠ Z := ne_of_none hD nZ
        refine ⟨.list [], .list [], (Da.lst.mpr ⟨D, [], rfl, by rw [upd_ne DZ]; exact hD, DaL.nil.mpr rfl⟩).dp, (Da.lst.mpr ⟨Z, [], rfl, upd_same, DaL.nil.mpr rfl⟩).dp, rfl, rfl, ?_⟩
        exact k _ (s18.trans (sA.trans (sB.trans (s15'.trans s16'))))
end
end K48

namespace K48
open PySem PySem.Spec PyProof.Rows L2
theorem pen_kt {n : Nat} {H H' : Hp} {p c : Addr} {ns : List Int} (h : PenOk n H p c ns) (e : Sx (· = p) H H') : Kt H H' := by
  obtain ⟨kvs, hp⟩ := h.pd
  exact ((kt_offK hp).trans (kt_off_sx e)).trans kt_of_off
theorem CodeS.kt {C CS : Addr} {H H' : Hp} {c : Addr} {as : List Addr} {ss : List Sp1} (e : Kt H H') (h : CodeS C CS H c as ss) : CodeS C CS H' c as ss := by
  obtain ⟨dx, t, h1, h2, h3, h4⟩ := h
  exact ⟨dx, t, e.i _ _ _ _ h1, e.t _ _ h2, h3, fun i a s h5 h6 => (h4 i a s h5 h6).kt e⟩
theorem CodeS.d {C CS : Addr} {H : Hp} {c : Addr} {as : List Addr} {ss : List Sp1} (h : CodeS C CS H c as ss) : CodeD C CS H c as := by
  obtain ⟨dx, t, h1, h2, h3, h4⟩ := h
  refine ⟨dx, t, h1, h2, fun b hb => ?_⟩
  obtain ⟨i, hi⟩ := List.mem_iff_getElem?.mp hb
  have il : i < ss.length := by
    rw [← h3]
    exact (List.getElem?_eq_some_iff.mp hi).1
  obtain ⟨dy, _, _, q, _⟩ := h4 i b _ hi (List.getElem?_eq_getElem il)
  exact ⟨dy, _, q⟩
mutual
theorem eqv_self : ∀ d : PyData, d.hasDict = false → PyData.eqv d d = true
  | .none, _ => rfl
  | .bool b, _ => by simp [PyData.eqv]
  | .int i, _ => by simp [PyData.eqv]
  | .str s, _ => by simp [PyData.eqv]
  | .list ds, h => by
    rw [PyData.eqv]
    exact eqvAll_self ds h
  | .tuple ds, h => by
    rw [PyData.eqv]
    exact eqvAll_self ds h
  | .dict _, h => by cases h
theorem eqvAll_self : ∀ ds : List PyData, PyData.hasDictAll ds = false → PyData.eqvAll ds ds = true
  | [], _ => rfl
  | d :: ds, h => by
    obtain ⟨h1, h2⟩ := Bool.or_eq_false_iff.mp (show (PyData.hasDict d || PyData.hasDictAll ds) = false from h)
    rw [PyData.eqvAll, eqv_self d h1, eqvAll_self ds h2]
    rfl
end
theorem nd_kd (k : Key) : (kd k).hasDict = false := by cases k <;> rfl
theorem nd_opd (o : Opd) : o.d.hasDict = false := by
  cases o with
  | pl k => simp [Opd.d, PyData.hasDict, PyData.hasDictAll, nd_kd]
  | num i => rfl
theorem nd_vl (v : Vl) : v.d.hasDict = false := by cases v <;> simp [Vl.d, Vl.opds, PyData.hasDict, PyData.hasDictAll, nd_opd]
theorem nd_deed (d : Deed) : d.d.hasDict = false := by
  cases d with
  | set t v => cases t <;> simp [Deed.d, tgd, PyData.hasDict, PyData.hasDictAll, nd_kd, nd_vl]
  | skip => rfl
  | give o => simp [Deed.d, PyData.hasDict, PyData.hasDictAll, nd_opd]
  | test p b => simp [Deed.d, Pr.d, PyData.hasDict, PyData.hasDictAll, nd_opd]
theorem nd_mv (ms : List (Key × Key)) : PyData.hasDictAll (ms.map mvd) = false := by
  refine hasDictAll_iff _ fun d hd => ?_
  obtain ⟨m, _, rfl⟩ := List.mem_map.mp hd
  simp [mvd, PyData.hasDict, PyData.hasDictAll, nd_kd]
theorem nd_sd (s : Sp1) : s.sd.all.hasDict = false := by
  simp [StD.all, Sp1.sd, PyData.hasDict, PyData.hasDictAll, nd_deed, nd_mv]
theorem lay_opd {o : Opd} (h : OpIn o) : o.d.canLay0 = true := by
  cases o with
  | pl k =>
    have h' : (kd k).canLay0 = true := h
    have e : (PyData.str ("at" : Str)).canLay0 = true := by decide +kernel
    show ((PyData.str ("at" : Str)).canLay0 && ((kd k).canLay0 && true)) = true
    rw [h', e]
    rfl
  | num i => rfl
theorem lay_vl {v : Vl} (h : v.lit) : v.d.canLay0 = true := by
  have w : ∀ s : Str, (PyData.str s).canLay0 = true → ∀ a b : Opd, OpIn a → OpIn b → ((PyData.str s).canLay0 && (a.d.canLay0 && (b.d.canLay0 && true))) = true := fun s hs a b ha hb => by
    rw [hs, lay_opd ha, lay_opd hb]
    rfl
  cases v with
  | as a =>
    have e : (PyData.str ("as" : Str)).canLay0 = true := by decide +kernel
    show ((PyData.str ("as" : Str)).canLay0 && (a.d.canLay0 && true)) = true
    rw [e, lay_opd h]
    rfl
  | plus a b => exact w "plus" (by decide +kernel) a b h.1 h.2
  | less a b => exact w "less" (by decide +kernel) a b h.1 h.2
  | times a k =>
    have e : (PyData.str ("times" : Str)).canLay0 = true := by decide +kernel
    show ((PyData.str ("times" : Str)).canLay0 && (a.d.canLay0 && (true && true))) = true
    have h' : OpIn a := h
    rw [e, lay_opd h']
    rfl
theorem lay_deed {d : Deed} (h : d.lit) : d.d.canLay0 = true := by
  cases d with
  | set t v =>
    have e : (PyData.str ("set" : Str)).canLay0 = true := by decide +kernel
    have et : (tgd t).canLay0 = true := by
      cases t with
      | none => rfl
      | some k => exact h.2.2 k rfl
    show ((PyData.str ("set" : Str)).canLay0 && ((tgd t).canLay0 && (v.d.canLay0 && true))) = true
    rw [e, et, lay_vl h.1]
    rfl
  | skip => decide +kernel
  | give o =>
    have e : (PyData.str ("give" : Str)).canLay0 = true := by decide +kernel
    show ((PyData.str ("give" : Str)).canLay0 && (o.d.canLay0 && true)) = true
    rw [e, lay_opd h]
    rfl
  | test p b =>
    have e : (PyData.str ("test" : Str)).canLay0 = true := by decide +kernel
    have e2 : (PyData.str p.c.word).canLay0 = true := by
      obtain ⟨c, x, y⟩ := p
      have e3 : (PyData.str "below").canLay0 = true := by decide +kernel
      have e4 : (PyData.str "most").canLay0 = true := by decide +kernel
      have e5 : (PyData.str "is").canLay0 = true := by decide +kernel
      cases c
      · exact e3
      · exact e4
      · exact e5
    show ((PyData.str ("test" : Str)).canLay0 && (((PyData.str p.c.word).canLay0 && (p.a.d.canLay0 && (p.b.d.canLay0 && true))) && (true && true))) = true
    rw [e, e2, lay_opd h.1, lay_opd h.2]
    rfl
theorem layAll_of : ∀ {ds : List PyData}, (∀ d ∈ ds, d.canLay0 = true) → PyData.canLayAll0 ds = true
  | [], _ => rfl
  | d :: ds, h => by
    rw [PyData.canLayAll0, h d (List.mem_cons_self ..), layAll_of fun d hd => h d (List.mem_cons_of_mem _ hd)]
    rfl
theorem lay_mv {ms : List (Key × Key)} (h : ∀ m ∈ ms, KeyOk m.1 ∧ KeyOk m.2) : (PyData.tuple (ms.map mvd)).canLay0 = true := by
  show PyData.canLayAll0 (ms.map mvd) = true
  refine layAll_of fun d hd => ?_
  obtain ⟨m, hm, rfl⟩ := List.mem_map.mp hd
  obtain ⟨h1, h2⟩ := h m hm
  have h1' : (kd m.1).canLay0 = true := h1
  have h2' : (kd m.2).canLay0 = true := h2
  show ((kd m.1).canLay0 && ((kd m.2).canLay0 && true)) = true
  rw [h1', h2']
  rfl
theorem dp_kd (k : Key) : (kd k).depth ≤ 1 := by cases k <;> simp [kd, PyData.depth]
theorem dp_opd (o : Opd) : o.d.depth ≤ 3 := by
  cases o with
  | pl k =>
    have := dp_kd k
    simp only [Opd.d, PyData.depth, PyData.depthAll]
    omega
  | num i => simp [Opd.d, PyData.depth]
theorem dp_vl (v : Vl) : v.d.depth ≤ 5 := by
  cases v with
  | as a =>
    have := dp_opd a
    simp only [Vl.d, Vl.opds, List.map_cons, List.map_nil, PyData.depth, PyData.depthAll]
    omega
  | plus a b =>
    have := dp_opd a
    have := dp_opd b
    simp only [Vl.d, Vl.opds, List.map_cons, List.map_nil, PyData.depth, PyData.depthAll]
    omega
  | less a b =>
    have := dp_opd a
    have := dp_opd b
    simp only [Vl.d, Vl.opds, List.map_cons, List.map_nil, PyData.depth, PyData.depthAll]
    omega
  | times a k =>
    have := dp_opd a
    have := dp_opd (.num k)
    simp only [Vl.d, Vl.opds, List.map_cons, List.map_nil, PyData.depth, PyData.depthAll]
    omega
theorem dp_deed (d : Deed) : d.d.depth ≤ 8 := by
  cases d with
  | set t v =>
    have := dp_vl v
    cases t with
    | none =>
      simp only [Deed.d, tgd, PyData.depth, PyData.depthAll]
      omega
    | some k =>
      have := dp_kd k
      simp only [Deed.d, tgd, PyData.depth, PyData.depthAll]
      omega
  | skip => simp [Deed.d, PyData.depth, PyData.depthAll]
  | give o =>
    have := dp_opd o
    simp only [Deed.d, PyData.depth, PyData.depthAll]
    omega
  | test p b =>
    have := dp_opd p.a
    have := dp_opd p.b
    simp only [Deed.d, Pr.d, PyData.depth, PyData.depthAll]
    omega
theorem dp_mv (ms : List (Key × Key)) : PyData.depthAll (ms.map mvd) ≤ 3 := depthAll_le _ fun d hd => by
  obtain ⟨m, _, rfl⟩ := List.mem_map.mp hd
  have := dp_kd m.1
  have := dp_kd m.2
  simp only [mvd, PyData.depth, PyData.depthAll]
  omega
/-- data of a step whose deed and moves are machine data -/
theorem shaped_st {st e : Int} {d m : PyData} (hd : d.canLay0 = true) (hm : m.canLay0 = true) (dd : d.depth ≤ 20) (dm : m.depth ≤ 20) : SeqAt.shaped (StD.all ⟨st, d, m, e⟩) = true := by
  refine Bool.and_eq_true_iff.mpr ⟨?_, decide_eq_true ?_⟩
  · show (true && (d.canLay0 && (m.canLay0 && (true && true)))) = true
    rw [hd, hm]
    rfl
  · simp only [StD.all, PyData.depth, PyData.depthAll]
    omega
theorem dp_mvT (ms : List (Key × Key)) : (PyData.tuple (ms.map mvd)).depth ≤ 20 := by
  have := dp_mv ms
  simp only [PyData.depth]
  omega
theorem shaped_sd {ks : List Key} {s : Sp1} (h : StepIn ks s) : SeqAt.shaped s.sd.all = true := by
  have := dp_deed s.deed
  exact shaped_st (lay_deed h.l) (lay_mv fun m hm => (h.m m hm).2) (by omega) (dp_mvT _)
/-- equal to none of the four others -/
theorem eqv_start (s : Sp1) : PyData.eqv s.sd.all (StD.all ⟨s.start + 1, s.deed.d, .tuple (s.moves.map mvd), s.fin⟩) = false := by
  have e := int_bne s.start
  simp only [StD.all, Sp1.sd, PyData.eqv, PyData.eqvAll, e, Bool.false_and]
theorem eqv_end (s : Sp1) : PyData.eqv s.sd.all (StD.all ⟨s.start, s.deed.d, .tuple (s.moves.map mvd), s.fin + 1⟩) = false := by
  have e := int_bne s.fin
  simp only [StD.all, Sp1.sd, PyData.eqv, PyData.eqvAll, e, Bool.false_and, Bool.and_false]
theorem eqvAll_len : ∀ {xs ys : List PyData}, xs.length ≠ ys.length → PyData.eqvAll xs ys = false
  | [], [], h => absurd rfl h
  | [], _ :: _, _ => by simp [PyData.eqvAll]
  | _ :: _, [], _ => by simp [PyData.eqvAll]
  | x :: xs, y :: ys, h => by
    rw [PyData.eqvAll, eqvAll_len (xs := xs) (ys := ys) (by simpa using h), Bool.and_false]
theorem eqv_moves (s : Sp1) : PyData.eqv s.sd.all (StD.all ⟨s.start, s.deed.d, .tuple ((s.moves ++ [((Sum.inl 77 : Key), (Sum.inl 78 : Key))]).map mvd), s.fin⟩) = false := by
  have : PyData.eqvAll (s.moves.map mvd) ((s.moves ++ [((Sum.inl 77 : Key), (Sum.inl 78 : Key))]).map mvd) = false := eqvAll_len (by simp)
  simp only [StD.all, Sp1.sd, PyData.eqv, PyData.eqvAll, this]
  simp
theorem eqv_deed (s : Sp1) : PyData.eqv s.sd.all (StD.all ⟨s.start, .tuple [.str "skip", .int 0], .tuple (s.moves.map mvd), s.fin⟩) = false := by
  have : PyData.eqv s.deed.d (.tuple [.str "skip", .int 0]) = false := by
    cases s.deed with
    | set t v => exact eqvAll_len (by simp)
    | skip => exact eqvAll_len (by simp)
    | give o =>
      have : (("give" : Str) == ("skip" : Str)) = false := by decide
      simp [Deed.d, PyData.eqv, PyData.eqvAll, this]
    | test p b => exact eqvAll_len (by simp)
  simp only [StD.all, Sp1.sd, PyData.eqv, PyData.eqvAll, this]
  simp
theorem da_ktD {H H' : Hp} {d : Deed} {x : V} (e : Kt H H') (h : Da H d.d x) : Da H' d.d x := by
  rw [← asT_deed] at h ⊢
  exact da_kt e h
theorem da_ktM {H H' : Hp} {ms : List (Key × Key)} {x : V} (e : Kt H H') (h : Da H (.tuple (ms.map mvd)) x) : Da H' (.tuple (ms.map mvd)) x := by
  rw [← asT_moves] at h ⊢
  exact da_kt e h
theorem fit_deed (d : Deed) : fit 4 d.d := by
  rw [deed_its]
  exact (fit_row (fit_its d).1 (fit_its d).2).1
theorem fit_moves {ms : List (Key × Key)} (h : ms.length ≤ 1000) : fit 4 (.tuple (ms.map mvd)) := (fit_row (n := 3) (by rw [List.length_map]; exact h) fun e he => by
  obtain ⟨m, _, rfl⟩ := List.mem_map.mp he
  refine (fit_row (n := 2) (by simp) fun d hd => ?_).1
  simp only [List.mem_cons, List.not_mem_nil, or_false] at hd
  rcases hd with rfl | rfl <;> exact fit_kd _ _).1
theorem catA_of {K : PySem.W.Frag} {H : Hp} {a b : Addr} {xs ys : List V} {Q : VK} (ha : H a = some (.tup xs)) (hb : H b = some (.tup ys)) (hy : ys ≠ []) (hl : xs.length + ys.length ≤ 1000) (q : ∀ H' t, Same H H' → H' t = some (.tup (xs ++ ys)) → Q (.ref t) H') : rCatA K (.ref a) (.ref b) H Q :=
  ⟨a, b, xs, ys, rfl, rfl, SqT.of ha, SqT.of hb, by rw [sizeLine_eq]; omega, fun e => q H b (Same.refl _) (by rw [e]; exact hb), fun _ e => absurd e hy, fun _ _ t nt => q _ t (same_new nt) upd_same⟩
section
variable {P : Program} {w : World} {K : PySem.W.Frag} {mg : Str → Option Value} {base : Heap}
theorem mkSt {C : Addr} {Hx : Hp} {st e : Int} {dv mv : V} {dd md : PyData} (hd : Da Hx dd dv) (fd : fit 4 dd) (hm : Da Hx md mv) (fm : fit 4 md) (R : Addr → Hp → Prop) (kR : ∀ H' x, Same Hx H' → StepD C H' x ⟨st, asT dd, asT md, e⟩ → R x H') :
    ∀ x dx, Hx x = none → Hx dx = none → dx ≠ x → spStepInit C (.ref x :: ([.int st, dv, mv, .int e] ++ [])) (upd (upd Hx dx (.own x)) x (.ins C dx [])) (fun v H2 => v = .non ∧ R x H2) E0 := by
  intro x dx nx ndx ne
  have s5 : Same Hx (upd (upd Hx dx (.own x)) x (.ins C dx [])) := same_upd (same_new ndx) nx
  refine ⟨x, dx, st, e, dv, mv, dd, md, rfl, upd_same, hd.kp (Kp.of s5), fd, hm.kp (Kp.of s5), fm, fun H' d' m' s' h' q1 q2 => ⟨rfl, kR H' x (fun b o q => s' b o (fun e => by rw [e, nx] at q; cases q) (s5 b o q)) ⟨dx, d', m', h', q1, q2⟩⟩⟩
def spEqualRight : Sp := fun vs H Q _ => ∃ (p c a : Addr) (ns : List Int) (n : Nat) (xs : List V) (ss : List Sp1) (ks : List Key), vs = [.ref p, .ref a] ∧ PenOk n H p c ns ∧ n + 6000 ≤ 1000000 ∧ H a = some (.lst xs) ∧ DaL H (ss.map Sp1.d) xs ∧ (∀ s ∈ ss, StepIn ks s) ∧ ss ≠ [] ∧ ss.length ≤ 18 ∧
  ∀ H', Sx (· = p) H H' → PenOk (n + 6000) H' p c ns → Q (.bl true) H'
abbrev nER : List Str := ["_law_pen_here", "_law_steps", "_law_start", "_law_deed", "_law_moves", "_law_end", "_law_one", "_law_others", "_law_code", "_law_other"]
theorem sc_equal_right : FnScope nER ["_law_pen_here", "_law_steps"] (defScope s__law_equal_right) := ⟨rfl, rfl, rfl, by decide +kernel, rfl, by decide +kernel, by decide +kernel⟩
theorem ca_equal_right (T : Tx K mg) : Ca P w K mg base CX0 11 "_law_equal_right" spEqualRight := by
  refine ca0 T.f_q_equal_right T.m_q_equal_right sc_equal_right (fun _ _ _ _ _ _ us hl => match us, hl with | [_, _], _ => rfl) (fun vs H Q E h => ?_) (fun cdv A outer s H vs Q E hr h => ?_)
  · obtain ⟨p, c, a, ns, n, xs, ss, ks, rfl, _⟩ := h
    rfl
  · obtain ⟨p, c, a, ns, n, xs, ss, ks, rfl, hp, hn, ha, hx, hin, hne, hl, k⟩ := h
    have c1 := ca_made_step (P := P) (w := w) (base := base) T
    have c2 := ca_made_code (P := P) (w := w) (base := base) T
    have c3 := ma_Step (P := P) (w := w) (base := base) T
    have c4 := me_Step_eq (P := P) (w := w) (base := base) T
    have c5 := me_Code_eq (P := P) (w := w) (base := base) T
    have u64 := hr.units
    refine ⟨_, pss_cons (ps_asg (pe_ix ix_list (pv 1) pe_int (fun _ _ => rfl))
        (pg_tup (by rfl) (pgs_cons (pg_name (i := 2) sc_equal_right.nd rfl (Or.inl rfl)) (pgs_cons (pg_name (i := 3) sc_equal_right.nd rfl (Or.inl rfl)) (pgs_cons (pg_name (i := 4) sc_equal_right.nd rfl (Or.inl rfl)) (pgs_cons (pg_name (i := 5) sc_equal_right.nd rfl (Or.inl rfl)) pgs_nil))))))
      (pss_cons (ps_set (i := 6) sc_equal_right.nd rfl (Or.inr rfl) (pe_ca c1 hr (pa_cons (pv 0) (pa_cons (pe_ix ix_list (pv 1) pe_int (fun _ _ => rfl)) pa_nil))))
      (pss_cons (ps_set (i := 7) sc_equal_right.nd rfl (Or.inl rfl) (pe_lst (pa_cons (pe_ma c3 hr (pa_cons (pe_op op_add (pv 2) pe_int) (pa_cons (pv 3) (pa_cons (pv 4) (pa_cons (pv 5) pa_nil))))) (pa_cons (pe_ma c3 hr (pa_cons (pv 2) (pa_cons (pe_tup (pa_cons pe_str (pa_cons pe_int pa_nil))) (pa_cons (pv 4) (pa_cons (pv 5) pa_nil))))) pa_nil))))
      (pss_cons (ps_set (i := 7) sc_equal_right.nd rfl (Or.inl rfl) (pe_op op_cat (pv 7) (pe_lst (pa_cons (pe_ma c3 hr (pa_cons (pv 2) (pa_cons (pv 3) (pa_cons (pe_op op_catA (pv 4) (pe_tup (pa_cons (pe_tup (pa_cons pe_int (pa_cons pe_int pa_nil))) pa_nil))) (pa_cons (pv 5) pa_nil))))) (pa_cons (pe_ma c3 hr (pa_cons (pv 2) (pa_cons (pv 3) (pa_cons (pv 4) (pa_cons (pe_op op_add (pv 5) pe_int) pa_nil))))) pa_nil)))))
      (pss_cons (ps_if (PW.pt (pw_or (pt_cmpR (op_neD u64) (pe_lc (own := [("_law_other", 9)]) (g := gName 9) (te := tVar 9) (tt := tTest (tOp (rEqI (He.ga K "Step") (spStepEq (He.ga K "Step"))) (tVar 6) (tVar 9))) rfl sc_equal_right.nd (pi_list (pv 7)) (blkOk_by (N := nER) (sc := defScope s__law_equal_right) (by decide +kernel)) (fun _ _ _ _ _ => pg_name (i := 9) sc_equal_right.nd rfl (Or.inl rfl))
          (fun _ _ _ _ _ => pts_one (pt_cmpR (op_eqI c4 (hr.mono (by decide))) (pv 6) (pv 9) (nomark _))) (fun _ _ _ _ _ => pv 9)) (pe_lst pa_nil) (nomark _))
          (pw_or1 (pt_not (pt_cmpR (op_eqI c4 (hr.mono (by decide))) (pv 6) (pe_ca c1 hr (pa_cons (pv 0) (pa_cons (pe_ix ix_list (pv 1) pe_int (fun _ _ => rfl)) pa_nil))) (nomark _)))))) (pss_one ps_never) pss_nil)
      (pss_cons (ps_set (i := 8) sc_equal_right.nd rfl (Or.inl rfl) (pe_ca c2 hr (pa_cons (pv 0) (pa_cons (pv 1) pa_nil))))
      (pss_one (ps_ret (pe_and (pe_cmpR (op_eqI c5 (hr.mono (by decide))) (pv 8) (pe_ca c2 hr (pa_cons (pv 0) (pa_cons (pv 1) pa_nil))) (nomark _))
        (pe_one (pe_not (pe_cmpR (op_eqI c5 (hr.mono (by decide))) (pv 8) (pe_ca c2 hr (pa_cons (pv 0) (pa_cons (pe_op op_cat (pv 1) (pe_lst (pa_cons (pe_ix ix_list (pv 1) pe_int (fun _ _ => rfl)) pa_nil))) pa_nil))) (nomark _)))))))))))), ?_⟩
    obtain ⟨z, zs, rfl⟩ : ∃ z zs, ss = z :: zs := by
      cases ss with
      | nil => exact absurd rfl hne
      | cons z zs => exact ⟨z, zs, rfl⟩
    obtain ⟨v0, vr, rfl, hz, hzs⟩ := DaL.cons.mp (show DaL H (z.d :: zs.map Sp1.d) xs from hx)
    obtain ⟨a0, dv, mv, rfl, ha0, hdd, hm⟩ := step_da hz
    have zin := hin z (List.mem_cons_self ..)
    have hok : StepsOk (z :: zs) := ⟨by omega, fun s hs => (hin s hs).ok⟩
    have fd := fit_deed z.deed
    have fm : fit 4 (.tuple (z.moves.map mvd)) := fit_moves (by have := zin.n; omega)
    have sz := shaped_sd zin
    refine ⟨_, rfl, a, _, _, _, rfl, rfl, SqL.of ha, at0 _ _, a0, _, rfl, SqT.of ha0, rfl, _, _, rfl, _, _, rfl, _, _, rfl, _, _, rfl, rfl, ?_⟩
    refine ⟨_, rfl, _, rfl, a, _, _, _, rfl, rfl, SqL.of ha, at0 _ _, p, c, ns, n, _, z, rfl, hp, by omega, hz, by have := zin.n; omega, fun H1 a1 s1 hp1 st1 => ?_⟩
    have kt1 := pen_kt hp s1
    have hdd1 := da_ktD kt1 hdd
    have hm1 := da_ktM kt1 hm
    refine ⟨_, rfl, _, _, rfl, rfl, _, rfl, _, rfl, _, rfl, mkSt hdd1 fd hm1 fm _ fun H2 x1 s2 r1 => ?_⟩
    have ds1 := hdd1.kp (Kp.of s2)
    have ms1 := hm1.kp (Kp.of s2)
    refine ⟨_, rfl, (by rw [sizeLine_eq]; show 2 ≤ _; omega), fun t0 nt0 => ?_⟩
    have n0 := same_new (o := .tup [.str "skip", .int 0]) nt0
    have hsk : Da (upd H2 t0 (.tup [.str "skip", .int 0])) (.tuple [.str "skip", .int 0]) (.ref t0) := Da.tup.mpr ⟨t0, _, rfl, upd_same, DaL.cons.mpr ⟨_, _, rfl, Da.str.mpr rfl, DaL.cons.mpr ⟨_, _, rfl, Da.int.mpr rfl, DaL.nil.mpr rfl⟩⟩⟩
    have fsk : fit 4 (.tuple [.str "skip", .int 0]) := (fit_row (n := 3) (by simp) fun e he => by
      simp only [List.mem_cons, List.not_mem_nil, or_false] at he
      rcases he with rfl | rfl <;> exact fit_leaf rfl).1
    refine ⟨_, rfl, _, rfl, mkSt hsk fsk (ms1.kp (Kp.of n0)) fm _ fun H3 x2 s3 r2 => ⟨(by rw [sizeLine_eq]; show 2 ≤ _; omega), fun L nL => ?_⟩⟩
    have nL' := same_new (o := .lst [.ref x1, .ref x2]) nL
    have s13 := s2.trans (n0.trans (s3.trans nL'))
    -- the other two
    obtain ⟨am, ms, em, ham, hmsd⟩ := Da.tup.mp (hm1.kp (Kp.of s13))
    subst em
    refine ⟨_, rfl, _, rfl, _, rfl, _, rfl, (by rw [sizeLine_eq]; show 2 ≤ _; omega), fun t1 nt1 => ⟨(by rw [sizeLine_eq]; show 1 ≤ _; omega), fun t2 nt2 => ?_⟩⟩
    have n1 := same_new (o := .tup [.int 77, .int 78]) nt1
    have n2 := same_new (o := .tup [.ref t1]) nt2
    have n12 := n1.trans n2
    have lms := hmsd.length
    rw [List.length_map] at lms
    refine catA_of (n12 _ _ ham) upd_same (by simp) (by have := zin.n; simp; omega) fun H4 tm s4 htm => ?_
    have sA := s13.trans (n12.trans s4)
    have hm4 : Da H4 (.tuple ((z.moves ++ [((Sum.inl 77 : Key), (Sum.inl 78 : Key))]).map mvd)) (.ref tm) := by
      refine Da.tup.mpr ⟨tm, _, rfl, htm, ?_⟩
      rw [List.map_append]
      refine DaL.app (hmsd.kp (Kp.of (n12.trans s4))) ?_
      exact DaL.cons.mpr ⟨_, _, rfl, Da.tup.mpr ⟨t1, _, rfl, s4 _ _ (n2 _ _ upd_same), DaL.cons.mpr ⟨_, _, rfl, Da.int.mpr rfl, DaL.cons.mpr ⟨_, _, rfl, Da.int.mpr rfl, DaL.nil.mpr rfl⟩⟩⟩, DaL.nil.mpr rfl⟩
    have fm4 : fit 4 (.tuple ((z.moves ++ [((Sum.inl 77 : Key), (Sum.inl 78 : Key))]).map mvd)) := fit_moves (by have := zin.n; simp; omega)
    refine ⟨_, rfl, mkSt (hdd1.kp (Kp.of sA)) fd hm4 fm4 _ fun H5 x3 s5 r3 => ?_⟩
    have sB := sA.trans s5
    refine ⟨_, rfl, _, rfl, _, rfl, _, rfl, _, _, rfl, rfl, mkSt (hdd1.kp (Kp.of sB)) fd (hm1.kp (Kp.of sB)) fm _ fun H6 x4 s6 r4 => ⟨(by rw [sizeLine_eq]; show 2 ≤ _; omega), fun Lw nLw => ?_⟩⟩
    have nL2' := same_new (o := .lst [.ref x3, .ref x4]) nLw
    have sL2 : Same (upd H3 L (.lst [.ref x1, .ref x2])) (upd H6 Lw (.lst [.ref x3, .ref x4])) := n12.trans (s4.trans (s5.trans (s6.trans nL2')))
    refine ⟨L, Lw, _, _, rfl, rfl, sL2 _ _ upd_same, upd_same, (by rw [sizeLine_eq]; show 2 + 2 ≤ _; omega), fun L3 nL3 => ?_⟩
    have nL3' := same_new (o := .lst ([.ref x1, .ref x2] ++ [.ref x3, .ref x4])) nL3
    have sE := sL2.trans nL3'
    have s1E : Same H1 _ := s13.trans sE
    have q1 := r1.same ((n0.trans (s3.trans nL')).trans sE)
    have q2 := r2.same (nL'.trans sE)
    have q3 := r3.same (s6.trans (nL2'.trans nL3'))
    have q4 := r4.same (nL2'.trans nL3')
    have t1' := stepAt_same s1E st1
    generalize eHE : upd (upd H6 Lw (.lst [.ref x3, .ref x4])) L3 (.lst ([.ref x1, .ref x2] ++ [.ref x3, .ref x4])) = HE at *
    have hL3 : HE L3 = some (.lst [.ref x1, .ref x2, .ref x3, .ref x4]) := by
      rw [← eHE]
      exact upd_same
    refine ⟨_, rfl, L3, rfl, ⟨_, SqL.of hL3⟩, fun D nD => ?_⟩
    refine lc_filt (K := K) (a := L3) (xs := [.ref x1, .ref x2, .ref x3, .ref x4]) (fun _ => false) (SqL.of hL3) nD (by simp) (by show 9 < 10; omega) ?_ ?_
    · intro j x H15 hj s15 Q2 k2
      have t15 := stepAt_same s15 t1'
      have ne : ∀ (y : Addr) (s' : StD), StepD (He.ga K "Step") HE y s' → x = .ref y → SeqAt.shaped s'.all = true → PyData.eqv z.sd.all s'.all = false → tTest (tOp (rEqI (He.ga K "Step") (spStepEq (He.ga K "Step"))) (tVar 6) (tVar 9)) ((wipe (((((((L2.start nER [V.ref p, V.ref a]).set 2 (some (V.int z.start))).set 3 (some dv)).set 4 (some (V.ref am))).set 5 (some (V.int z.fin))).set 6 (some (V.ref a1))).set 7 (some (V.ref L3))) [9]).set 9 (some x)) H15 Q2 := by
        intro y s' hy e1 sh e
        subst e1
        have hy' := hy.same s15
        obtain ⟨dx, d1, m1, g1, g2, g3⟩ := id t15
        obtain ⟨dy, d2, m2, f1, f2, f3⟩ := id hy'
        refine ⟨_, rfl, _, rfl, a1, y, dx, dy, _, _, rfl, rfl, g1, f1, a1, y, z.sd, s', rfl, ⟨dx, d1, m1, g1, g2, g3⟩, hy', sz, sh, fun H16 s16 => ⟨_, rfl, _, rfl, ?_⟩⟩
        rw [e]
        exact k2 H16 s16
      have m : x = .ref x1 ∨ x = .ref x2 ∨ x = .ref x3 ∨ x = .ref x4 := by
        have := List.mem_of_getElem? hj
        simpa using this
      rcases m with rfl | rfl | rfl | rfl
      · refine ne x1 _ q1 rfl ?_ ?_
        · show SeqAt.shaped (StD.all ⟨z.start + 1, asT z.deed.d, asT (.tuple (z.moves.map mvd)), z.fin⟩) = true
          rw [asT_deed, asT_moves]
          exact shaped_st (lay_deed zin.l) (lay_mv fun m hm => (zin.m m hm).2) (by have := dp_deed z.deed; omega) (dp_mvT _)
        · show PyData.eqv z.sd.all (StD.all ⟨z.start + 1, asT z.deed.d, asT (.tuple (z.moves.map mvd)), z.fin⟩) = false
          rw [asT_deed, asT_moves]
          exact eqv_start z
      · refine ne x2 _ q2 rfl ?_ ?_
        · show SeqAt.shaped (StD.all ⟨z.start, asT (.tuple [.str "skip", .int 0]), asT (.tuple (z.moves.map mvd)), z.fin⟩) = true
          rw [asT_moves]
          refine shaped_st (d := .tuple [.str "skip", .int 0]) (by decide +kernel) (lay_mv fun m hm => (zin.m m hm).2) ?_ (dp_mvT _)
          simp [PyData.depth, PyData.depthAll]
        · show PyData.eqv z.sd.all (StD.all ⟨z.start, asT (.tuple [.str "skip", .int 0]), asT (.tuple (z.moves.map mvd)), z.fin⟩) = false
          rw [asT_moves]
          exact eqv_deed z
      · refine ne x3 _ q3 rfl ?_ ?_
        · show SeqAt.shaped (StD.all ⟨z.start, asT z.deed.d, asT (.tuple ((z.moves ++ [((Sum.inl 77 : Key), (Sum.inl 78 : Key))]).map mvd)), z.fin⟩) = true
          rw [asT_deed, asT_moves]
          refine shaped_st (lay_deed zin.l) (lay_mv fun m hm => ?_) (by have := dp_deed z.deed; omega) (dp_mvT _)
          rcases List.mem_append.mp hm with hm | hm
          · exact (zin.m m hm).2
          · simp only [List.mem_cons, List.not_mem_nil, or_false] at hm
            subst hm
            exact ⟨by unfold KeyOk; decide, by unfold KeyOk; decide⟩
        · show PyData.eqv z.sd.all (StD.all ⟨z.start, asT z.deed.d, asT (.tuple ((z.moves ++ [((Sum.inl 77 : Key), (Sum.inl 78 : Key))]).map mvd)), z.fin⟩) = false
          rw [asT_deed, asT_moves]
          exact eqv_moves z
      · refine ne x4 _ q4 rfl ?_ ?_
        · show SeqAt.shaped (StD.all ⟨z.start, asT z.deed.d, asT (.tuple (z.moves.map mvd)), z.fin + 1⟩) = true
          rw [asT_deed, asT_moves]
          exact shaped_st (lay_deed zin.l) (lay_mv fun m hm => (zin.m m hm).2) (by have := dp_deed z.deed; omega) (dp_mvT _)
        · show PyData.eqv z.sd.all (StD.all ⟨z.start, asT z.deed.d, asT (.tuple (z.moves.map mvd)), z.fin + 1⟩) = false
          rw [asT_deed, asT_moves]
          exact eqv_end z
    · intro H15 s15 hD
      have ef : ([V.ref x1, V.ref x2, V.ref x3, V.ref x4].filter fun _ => false) = [] := rfl
      rw [ef] at hD
      refine ⟨Nat.zero_le _, fun Z nZ => ?_⟩
      have s16 := same_new (o := .lst []) nZ
      have DZ : D ≠ Z := ne_of_none hD nZ
      refine ⟨.list [], .list [], (Da.lst.mpr ⟨D, [], rfl, by rw [upd_ne DZ]; exact hD, DaL.nil.mpr rfl⟩).dp, (Da.lst.mpr ⟨Z, [], rfl, upd_same, DaL.nil.mpr rfl⟩).dp, rfl, rfl, ?_⟩
      have sF := s15.trans s16
      have hp2 : PenOk (n + 102) (upd H15 Z (.lst [])) p c ns := (hp1.same (s1E.trans sF))
      have sx2 : Sx (· = p) H (upd H15 Z (.lst [])) := s1.trans (Sx.ofSame (s1E.trans sF))
      generalize upd H15 Z (.lst []) = HF at *
      have ktF := pen_kt hp sx2
      have haF := hp.lk sx2 ha
      refine ⟨_, rfl, if_f rfl ?_⟩
      refine ⟨_, rfl, _, rfl, _, rfl, a, _, _, _, rfl, rfl, SqL.of haF, at0 _ _, p, c, ns, n + 102, _, z, rfl, hp2, by omega, da_ktS ktF hz, by have := zin.n; omega, fun H7 a2 s7 hp7 st2 => ?_⟩
      have st1' := (stepAt_same (s1E.trans sF) st1).kt (pen_kt hp2 s7)
      obtain ⟨dx, d1, m1, g1, g2, g3⟩ := id st1'
      obtain ⟨dy, d2, m2, f1, f2, f3⟩ := id st2
      refine ⟨a1, a2, dx, dy, _, _, rfl, rfl, g1, f1, a1, a2, z.sd, z.sd, rfl, ⟨dx, d1, m1, g1, g2, g3⟩, ⟨dy, d2, m2, f1, f2, f3⟩, sz, sz, fun H8 s8 => ⟨_, rfl, _, rfl, ?_⟩⟩
      rw [eqv_self _ (nd_sd z)]
      have hp8 := hp7.same s8
      have sx8 : Sx (· = p) H H8 := sx2.trans (s7.trans (Sx.ofSame s8))
      refine if_f rfl ?_
      have kt8 := pen_kt hp sx8
      have len := hl
      have ha8 := hp.lk sx8 ha
      have hx8 : DaL H8 ((z :: zs).map Sp1.d) (.ref a0 :: vr) := daL_ktS kt8 hx
      refine ⟨_, rfl, _, rfl, p, c, a, ns, n + 102 + 102, _, z :: zs, rfl, hp8, by omega, ha8, hx8, hok, fun H9 cd1 as1 s9 hp9 cs1 => ?_⟩
      have sx9 := sx8.trans s9
      have ha9 := hp.lk sx9 ha
      have hx9 : DaL H9 ((z :: zs).map Sp1.d) (.ref a0 :: vr) := daL_ktS (pen_kt hp sx9) hx
      refine ⟨_, rfl, _, rfl, _, rfl, p, c, a, ns, _, _, z :: zs, rfl, hp9, by omega, ha9, hx9, hok, fun H10 cd2 as2 s10 hp10 cs2 => ?_⟩
      have cs1' := cs1.kt (pen_kt hp9 s10)
      obtain ⟨dx1, tt1, i1, i2, i3, i4⟩ := id cs1'
      obtain ⟨dx2, tt2, j1, j2, j3, j4⟩ := id cs2
      have both : ∀ {HH : Hp} {s : Sp1} {x y : Addr}, s ∈ z :: zs → StepAt (He.ga K "Step") HH x s → StepAt (He.ga K "Step") HH y s → EqSt (He.ga K "Step") x y HH := fun {HH s x y} hs ⟨d1, m1, m2, e1, e2, e3⟩ ⟨d4, m4, m5, e4, e5, e6⟩ =>
        ⟨s.sd, s.sd, ⟨d1, m1, m2, e1, e2, e3⟩, ⟨d4, m4, m5, e4, e5, e6⟩, shaped_sd (hin s hs), shaped_sd (hin s hs), eqv_self _ (nd_sd s)⟩
      refine ⟨cd1, cd2, dx1, dx2, _, _, rfl, rfl, i1, j1, cd1, cd2, as1, as2, rfl, cs1'.d, cs2.d, fun i x y hx hy => ?_, fun H11 s11 => ⟨_, rfl, _, rfl, if_t (by rw [i3, j3]; exact beq_self_eq_true _) ?_⟩⟩
      · have il : i < (z :: zs).length := by
          rw [← i3]
          exact (List.getElem?_eq_some_iff.mp hx).1
        exact both (List.getElem_mem il) (i4 i x _ hx (List.getElem?_eq_getElem il)) (j4 i y _ hy (List.getElem?_eq_getElem il))
      have hp11 := hp10.same s11
      have sx11 : Sx (· = p) H H11 := sx9.trans (s10.trans (Sx.ofSame s11))
      have ha11 := hp.lk sx11 ha
      refine ⟨_, rfl, _, rfl, _, rfl, _, rfl, a, _, _, _, rfl, rfl, SqL.of ha11, at0 _ _, (by rw [sizeLine_eq]; show 1 ≤ _; omega), fun L4 nL4 => ?_⟩
      have nL4' := same_new (o := .lst [.ref a0]) nL4
      have lvr : vr.length = zs.length := by
        have := hzs.length
        rwa [List.length_map] at this
      have lvz : (V.ref a0 :: vr).length + [V.ref a0].length ≤ sizeLine := by
        have : (V.ref a0 :: vr).length = (z :: zs).length := by simp [lvr]
        rw [sizeLine_eq, this]
        show (z :: zs).length + 1 ≤ _
        omega
      refine ⟨a, L4, _, _, rfl, rfl, nL4' _ _ ha11, upd_same, lvz, fun L5 nL5 => ?_⟩
      have nL5' := same_new (o := .lst ((V.ref a0 :: vr) ++ [.ref a0])) nL5
      have s45 := nL4'.trans nL5'
      have sx12 : Sx (· = p) H _ := sx11.trans (Sx.ofSame s45)
      have hx12 : DaL (upd (upd H11 L4 (.lst [.ref a0])) L5 (.lst ((V.ref a0 :: vr) ++ [.ref a0]))) ((z :: zs).map Sp1.d) (.ref a0 :: vr) := daL_ktS (pen_kt hp sx12) hx
      have hx13 : DaL (upd (upd H11 L4 (.lst [.ref a0])) L5 (.lst ((V.ref a0 :: vr) ++ [.ref a0]))) (((z :: zs) ++ [z]).map Sp1.d) ((.ref a0 :: vr) ++ [.ref a0]) := by
        rw [List.map_append]
        exact DaL.app hx12 (DaL.cons.mpr ⟨_, _, rfl, da_ktS (pen_kt hp sx12) hz, DaL.nil.mpr rfl⟩)
      have lapp : ((z :: zs) ++ [z]).length = (z :: zs).length + 1 := by simp
      have hok2 : StepsOk ((z :: zs) ++ [z]) := ⟨by omega, fun s hs => (hin s (by
        rcases List.mem_append.mp hs with q | q
        · exact q
        · simp only [List.mem_cons, List.not_mem_nil, or_false] at q
          rw [q]
          exact List.mem_cons_self ..)).ok⟩
      refine ⟨p, c, L5, ns, _, _, _, rfl, hp11.same s45, by omega, upd_same, hx13, hok2, fun H13 cd3 as3 s13' hp13 cs3 => ?_⟩
      have cs1b := (cs1'.same (s11.trans s45)).kt (pen_kt (hp11.same s45) s13')
      obtain ⟨dx3, tt3, u1, u2, u3, u4⟩ := id cs1b
      obtain ⟨dx4, tt4, w1, w2, w3, w4⟩ := id cs3
      refine ⟨cd1, cd3, dx3, dx4, _, _, rfl, rfl, u1, w1, cd1, cd3, as1, as3, rfl, cs1b.d, cs3.d, fun i x y hx hy => ?_, fun H14 s14 => ⟨_, rfl, _, rfl, ?_⟩⟩
      · have il : i < (z :: zs).length := by
          rw [← u3]
          exact (List.getElem?_eq_some_iff.mp hx).1
        refine both (List.getElem_mem il) (u4 i x _ hx (List.getElem?_eq_getElem il)) (w4 i y _ hy ?_)
        rw [List.getElem?_append_left il]
        exact List.getElem?_eq_getElem il
      have : (as1.length == as3.length) = false := beq_eq_false_iff_ne.mpr (by omega)
      rw [this]
      exact k H14 (sx12.trans (s13'.trans (Sx.ofSame s14))) ((hp13.same s14).mono (by omega))
end
end K48

namespace K48
open PySem PySem.Spec PyProof.Rows L2
/-- what the clauses wish of an exception of the body, one after the other -/
def wManyA (K : PySem.W.Frag) (i : Nat) (Wout : WX) (D : Ends) : List (Value × (Addr → Value → Option Addr → TS)) → WX
  | [] => Wout
  | (c, ts) :: r => fun cls d σ H => ∃ b, PySem.W.exmOne K cls c = some b ∧ (b = true → ∀ a, H a = none → ts a cls d { nx := fun σ2 H2 => D.nx (σ2.set i none) H2, rt := D.rt, bk := fun σ2 H2 => D.bk (σ2.set i none) H2, ct := fun σ2 H2 => D.ct (σ2.set i none) H2 } (σ.set i (some (.ref a))) H) ∧ (b = false → wManyA K i Wout D r cls d σ H)
inductive HdsA (X : Cx) (n : Str) : List ExceptHandler → List (Value × (Addr → Value → Option Addr → TS)) → Prop
  | nil : HdsA X n [] []
  | cons {x : Str} {c : Value} {ts : Addr → Value → Option Addr → TS} {b₀ : Stmt} {suite : List Stmt} {np pos' : Pos} {hds : List ExceptHandler} {l : List (Value × (Addr → Value → Option Addr → TS))} (hc : Names X x c)
      (hsu : ∀ (a : Addr) (oe : Obj) (cls : Value) (d : Option Addr) (pn : List (Addr × Obj)), Zc cls d oe → (∃ vs, oe.data = .fields vs) → PSs (X.suite a ((a, oe) :: pn)) (b₀ :: suite) (ts a cls d)) (r : HdsA X n hds l) :
      HdsA X n (.ExceptHandler (some (.Name x np)) (some n) (b₀ :: suite) pos' :: hds) ((c, ts) :: l)
section
variable {X : Cx} {body : List Stmt} {h₀ : ExceptHandler} {hds : List ExceptHandler} {l : List (Value × (Addr → Value → Option Addr → TS))} {pos : Pos} {tb : WX → TS} {Wout : WX} {n : Str} {i : Nat}
theorem ps_try_manyA (hs : X.stack = X.env :: X.outer) (hf : X.env.frame = some X.env.locals) (hN : X.N.Nodup) (hi : X.N[i]? = some n) (hln : X.env.kindOf n = some .local) (tk : Takes X Wout)
    (hb : ∀ (W : WX) (pn : List (Addr × Obj)) (xe : Value → Shared → Prop), Takes (X.tr pn xe) W → PassesOwn (model X.prog X.w) X.A X.env xe → PSs (X.tr pn xe) body (tb W))
    (hh : HdsA X n (h₀ :: hds) l) : PS X (.Try body (h₀ :: hds) [] [] pos) (fun D σ H => tb (wManyA X.K i Wout D l) D σ H) := by
  refine ⟨fun pins s σ H D I h => ?_⟩
  have ok := I.ok
  have hloc : Loc X.env.scope n := .inl hln
  have hfr : X.A.frames = some (X.env :: X.outer) := by rw [ok.frames, hs]
  refine wpAny_Try_except ?_
  refine wpAny_mono ((hb (wManyA X.K i Wout D l) (X.pn ++ pins) (fun e s₁ => wpAny (model X.prog X.w) X.A (noteFrame e X.env) (fun _ s₂ => wpAny (model X.prog X.w) X.A (setFlight e none) (fun _ s₃ =>
    wpAny (model X.prog X.w) X.A (handleBy e X.env (h₀ :: hds)) (SP X pins D) X.xe s₃) X.xe s₂) X.xe s₁) (fun u s' xx => ?_) PassesOwn.looking).run [] s σ H D (I.toTry _) h) (fun f s1 hsp => ?_) (fun e s1 he => he)
  · -- the catch
    obtain ⟨a, B, sI, pins', σ', H', cls, d, rfl, J', nb, up, sky, na, os, ag, w⟩ := xx
    have J : Inv X pins σ' H' sI := J'.ofTry ok
    have sky' : Sky B (X.env :: X.outer) a (Zc cls d) X.env.locals s'.heap := by rw [← hs]; exact sky
    show wpAny (model X.prog X.w) X.A (noteFrame (.ref a) X.env) _ _ _
    refine Sky.land Zc.steady hfr hf sky' fun h3 fl3 up3 => ?_
    have J3 : Inv X pins σ' H' { s' with heap := h3 } := J.landed nb fl3.1 (up.trans up3) os ag
    obtain ⟨oe3, vs3, he3, hz3, hd3⟩ := fl3.there
    have notFr : ∀ {h : Heap} {o : Obj} {vs : Array Value}, h.FunFrames B (X.env :: X.outer) → h.get? a = some o → o.data = .fields vs → a ∉ frs (X.env :: X.outer) := fun {h o vs} ff e dd hm => by
      obtain ⟨_, o', e', hnf⟩ := ff.mem hm
      rw [e] at e'; cases e'
      exact hnf _ dd
    have nfr := notFr fl3.2.2.1 he3 hd3
    have nL : a ≠ X.env.locals := fun z => nfr (List.mem_filterMap.mpr ⟨X.env, List.mem_cons_self, by rw [hf, z]⟩)
    have nF : a ∉ X.fs := fun hm => by
      obtain ⟨e, he, q⟩ := List.mem_filterMap.mp hm
      exact nfr (List.mem_filterMap.mpr ⟨e, List.mem_cons_of_mem _ he, q⟩)
    have S3 := J3.suite he3 hd3 na nL nF
    have go : ∀ {hds' : List ExceptHandler} {l' : List (Value × (Addr → Value → Option Addr → TS))}, HdsA X n hds' l' → wManyA X.K i Wout D l' cls d σ' H' →
        wpAny (model X.prog X.w) X.A (handleBy (.ref a) X.env hds') (SP X pins D) X.xe { s' with heap := h3 } := by
      intro hds' l' hk
      induction hk with
      | nil =>
        intro w
        refine wpAny_handleBy_nil ?_
        obtain ⟨k1, k2, k3, oe, vs, T, oT, ts', he, hz, hd, h1, hr⟩ := id fl3
        unfold PySem.passOn
        refine wpAny_bind (wpAny_field he hd h1 ?_)
        rw [if_neg (show ¬ ((Value.ref T == Value.none) = true) from by simp)]
        have fin : wpAny (model X.prog X.w) X.A (setFlight (.ref a) X.env.frame) (fun _ s4 => wpAny (model X.prog X.w) X.A (throw (.ref a) : Sem Flow) (SP X pins D) X.xe s4) X.xe { s' with heap := h3 } := by
          rw [hf]
          refine HandSPX.setFlight_upZ fl3 fun h4 hh4 up4 => wpAny_throw (tk _ _ ?_)
          exact ⟨a, B, sI, pins, σ', H', cls, d, rfl, J, nb, (up.trans up3).trans up4, .inr (.inr (by rw [hs]; exact hh4)), na, os, ag, w⟩
        first
          | exact wpAny_bind (wpAny_pure (wpAny_bind fin))
          | exact wpAny_bind fin
      | @cons x c ts b₀ suite np pos' hds2 l2 hc hsu r ih =>
        intro w
        obtain ⟨b, hb1, hyes, hno⟩ := w
        refine wpAny_handleBy_cons (codeAny_handlers_test ?_) (by intro q; cases q)
        have LT : PySem.W.Looks (model X.prog X.w) h3 (typeOf (.ref a)) cls := fun A Q E s k q => wpAny_typeOf_ref (k _ _ he3) (by rw [hz3.1]; exact q)
        have LM := PySem.W.exm_one (M := model X.prog X.w) (J3.kIn) LT hb1
        have test : ∀ {Q : Value → Shared → Prop} {E : Value → Shared → Prop}, Q c { s' with heap := h3 } → wpAny (model X.prog X.w) (X.A.mark (some (.ref a))) (eval (.Name x np) X.env) Q E { s' with heap := h3 } := fun {Q E} q => by
          obtain ⟨hg, hdbg, hm | ⟨hm, hv, hnn⟩⟩ := hc
          · exact ld_glob (X := X.suite a ((a, oe3) :: (X.pn ++ pins))) S3 hg hm q hdbg
          · exact ld_blt (X := X.suite a ((a, oe3) :: (X.pn ++ pins))) S3 hg hm hv q hnn hdbg
        refine test (LM.here ?_)
        cases b with
        | true =>
          refine codeAny_handlers_suite_as ?_
          refine HandSPX.lands_againZ fl3 fun h4 fl4 up4 => ?_
          have J4 : Inv X pins σ' H' { s' with heap := h4 } := J.landed nb fl4.1 ((up.trans up3).trans up4) os ag
          obtain ⟨oe4, vs4, he4, hz4, hd4⟩ := fl4.there
          have S4 := J4.suite he4 hd4 na nL nF
          refine store_ok (X := X.suite a ((a, oe4) :: (X.pn ++ pins))) (v := .ref a) S4 hN hi hloc rfl (fun s5 S5 => ?_) (.inr hln)
          refine wpAny_mono ((hsu a oe4 cls d (X.pn ++ pins) hz4 ⟨_, hd4⟩).run [] s5 _ H' _ S5 (hyes rfl a na)) (fun f s6 hsp => ?_) (fun _ _ z => False.elim z)
          have end_ : ∀ {σ6 : L2.St} {H6 : Hp} {Q : Shared → Prop}, Inv (X.suite a ((a, oe4) :: (X.pn ++ pins))) [] σ6 H6 s6 → (∀ s7, Inv X pins (σ6.set i none) H6 s7 → Q s7) →
              wpAny (model X.prog X.w) X.A (do bindName X.env n .none; unbindBehindTheSuite X.env n pos') (fun _ s7 => Q s7) X.xe s6 := fun {σ6 H6 Q} S6 hq => gone_ok (S6.unsuite ok) hN hi hln hq
          cases f with
          | next =>
            obtain ⟨σ6, H6, S6, q6⟩ := hsp
            exact end_ S6 fun s7 J7 => ⟨_, _, J7, q6⟩
          | brk =>
            obtain ⟨σ6, H6, S6, q6⟩ := hsp
            exact end_ S6 fun s7 J7 => ⟨_, _, J7, q6⟩
          | cont =>
            obtain ⟨σ6, H6, S6, q6⟩ := hsp
            exact end_ S6 fun s7 J7 => ⟨_, _, J7, q6⟩
          | ret u =>
            obtain ⟨v6, σ6, H6, S6, r6, q6⟩ := hsp
            exact end_ S6 fun s7 J7 => ⟨_, _, _, J7, r6, q6⟩
        | false =>
          show wpAny _ X.A (handleBy (.ref a) X.env hds2) _ _ _
          exact ih (hno rfl)
    exact go hh w
  · cases f with
    | next =>
      obtain ⟨σ', H', J', q⟩ := hsp
      exact wpAny_execs_nil ⟨σ', H', J'.ofTry ok, q⟩
    | brk =>
      obtain ⟨σ', H', J', q⟩ := hsp
      exact ⟨σ', H', J'.ofTry ok, q⟩
    | cont =>
      obtain ⟨σ', H', J', q⟩ := hsp
      exact ⟨σ', H', J'.ofTry ok, q⟩
    | ret u =>
      obtain ⟨v, σ', H', J', r, q⟩ := hsp
      exact ⟨v, σ', H', J'.ofTry ok, r, q⟩
end
end K48

namespace K48
open PySem PySem.Spec PyProof.Rows L2
/-- the slots of a frame are as many as its names, at an exception too -/
theorem takesL {X : Cx} {W : WX} (t : Takes X W) : Takes X (fun cls d σ H => σ.length = X.N.length → W cls d σ H) := fun u s' x => by
  obtain ⟨a, B, sI, pins, σ, H, cls, d, e, I, nb, up, sky, na, os, ag, g⟩ := x
  exact t u s' ⟨a, B, sI, pins, σ, H, cls, d, e, I, nb, up, sky, na, os, ag, g I.len⟩
/-- what _law_fault makes of an exception -/
def FaultE (K : PySem.W.Frag) (Q : VK) : XK := fun cls d H =>
  (∃ (dd : Addr) (v : V) (dv : PyData) (s : Str), cls = .ref (cBN K) ∧ d = some dd ∧ H dd = some (.xd [("value", v), ("what", .str s)]) ∧ Da H dv v ∧ ReOk (.tuple [.str "number", .str s, dv]) ∧ ∀ H', Same H H' → Q (.str (PyData.shown (.tuple [.str "number", .str s, dv]))) H') ∨
  (∃ (dd : Addr) (v : V) (dv : PyData), cls = .ref (cBR K) ∧ d = some dd ∧ H dd = some (.xd [("value", v)]) ∧ Da H dv v ∧ ReOk (.tuple [.str "row", dv]) ∧ ∀ H', Same H H' → Q (.str (PyData.shown (.tuple [.str "row", dv]))) H')
def TFault (K : PySem.W.Frag) : (XK → Hp → VK → Prop) → Hp → VK → Prop := fun tl H Q => ∀ R : VK, tl (FaultE K Q) H R
abbrev nFT : List Str := ["_law_call", "_law_got", "e"]
theorem sc_fault : FnScope nFT ["_law_call"] (defScope s__law_fault) := ⟨rfl, rfl, rfl, by decide +kernel, rfl, by decide +kernel, by decide +kernel⟩
theorem fault_gives {X : Cx} {g : Addr} {cdg : Value} {q : Str} {j : Nat} (T : Tx X.K X.mg) (hr : Room (j + 1) X.A) (hg : X.A.guards = some []) :
    LamX.GivesTo X nFT "_law_fault" (defScope s__law_fault) g cdg (defBody s__law_fault) "_law_call" q (TFault X.K) := by
  intro f c' s H Q tl act hc h
  have hr2 : Room j (cxOf C8.CX0 X.prog X.w X.K X.mg X.base nFT "_law_fault" (defScope s__law_fault) g cdg X.A X.stack s H C8.E0).nox.A := hr.deeper _
  have u64 := hr2.units
  refine ⟨_, pss_cons (ps_set (i := 1) sc_fault.nd rfl (Or.inl rfl) pe_non)
    (pss_cons (ps_try_manyA (X := (cxOf C8.CX0 X.prog X.w X.K X.mg X.base nFT "_law_fault" (defScope s__law_fault) g cdg X.A X.stack s H C8.E0).nox) (n := "e") (i := 2)
      (tb := fun W D σ H => ∃ Ech : XK, (∀ cls d σ' H', Ech cls d H' → σ'.length = 3 → W cls d σ' H') ∧ σ[0]? = some (some (.ref f)) ∧ H c' = some (LamX.CodeO c' q) ∧ ∀ R, tl Ech H R)
      rfl rfl sc_fault.nd rfl rfl LamX.takes0 (fun W pn xe tk _ => ?_)
      (.cons (c := .ref (cBN X.K)) ⟨rfl, by decide, .inl T.m_BadNumber⟩ (fun a oe cls d pn hz hf => pss_one (ps_set (i := 1) sc_fault.nd rfl (Or.inl rfl) (pe_tup (pa_cons pe_str (pa_cons (pe_xf T.o_BadNumber.x T.o_BadNumber.w hz hf (pv 2)) (pa_cons (pe_xf T.o_BadNumber.x T.o_BadNumber.v hz hf (pv 2)) pa_nil))))))
        (.cons (c := .ref (cBR X.K)) ⟨rfl, by decide, .inl T.m_BadRow⟩ (fun a oe cls d pn hz hf => pss_one (ps_set (i := 1) sc_fault.nd rfl (Or.inl rfl) (pe_tup (pa_cons pe_str (pa_cons (pe_xf T.o_BadRow.x T.o_BadRow.v hz hf (pv 2)) pa_nil))))) .nil)))
    (pss_one (ps_ret (pe_callB (call_reprD hg u64) (by rfl) T.z_repr (by decide +kernel) (pa_cons (pv 1) pa_nil))))), ?_⟩
  · refine ⟨fun pins s' σ H' D I h' => ?_⟩
    obtain ⟨Ech, hW, h1, h2, h3⟩ := h'
    have hp := act _ pn xe Ech ⟨287, 8, 287, 17⟩ ⟨287, 8, 287, 19⟩ (takesL tk) hW
    exact (pss_one (ps_expr hp)).run pins s' σ H' D I ⟨h1, h2, h3 _⟩
  · refine ⟨FaultE X.K Q, fun cls d σ' H' hE hl => ?_, rfl, hc, h⟩
    obtain ⟨s0, s1, s2, rfl⟩ : ∃ s0 s1 s2, σ' = [s0, s1, s2] := by
      match σ', hl with
      | [s0, s1, s2], _ => exact ⟨s0, s1, s2, rfl⟩
    rcases hE with ⟨dd, v, dv, st, rfl, rfl, hd, hv, ok, k⟩ | ⟨dd, v, dv, rfl, rfl, hd, hv, ok, k⟩
    · refine ⟨true, T.x_BadNumber_BadNumber, fun _ a na => ?_, fun z => by cases z⟩
      refine ⟨_, rfl, rfl, rfl, dd, _, _, rfl, hd, rfl, _, rfl, rfl, rfl, dd, _, _, rfl, hd, rfl, (by rw [sizeLine_eq]; show 3 ≤ _; omega), fun t nt => ?_⟩
      have e1 := same_new (o := .tup [.str "number", .str st, v]) nt
      refine ⟨_, rfl, .tuple [.str "number", .str st, dv], .ref t, rfl, (Da.three upd_same (Da.str.mpr rfl) (Da.str.mpr rfl) (hv.kp (Kp.of e1))).dp, ok.i, ok.s, ok.n, ok.dp, ok.l, k _ e1⟩
    · refine ⟨false, T.x_BadRow_BadNumber, (fun z => by cases z), fun _ => ⟨true, T.x_BadRow_BadRow, fun _ a na => ?_, (fun z => by cases z)⟩⟩
      refine ⟨_, rfl, rfl, rfl, dd, _, _, rfl, hd, rfl, (by rw [sizeLine_eq]; show 2 ≤ _; omega), fun t nt => ?_⟩
      have e1 := same_new (o := .tup [.str "row", v]) nt
      refine ⟨_, rfl, .tuple [.str "row", dv], .ref t, rfl, (Da.two upd_same (Da.str.mpr rfl) (hv.kp (Kp.of e1))).dp, ok.i, ok.s, ok.n, ok.dp, ok.l, k _ e1⟩
end K48

/-! own rules: a tuple times one, a text times an int -/
namespace K48
open PySem PySem.Spec PyProof.Rows L2
theorem tuple_mul_one (l : Addr) (items : Array Value) (n : Nat) (dd : Option Addr) (sl : Array (Option Value)) (u : Tok) :
    Meets (Builtin.«tuple.__mul__» ⟨[.ref l, .int 1 u], []⟩) (fun _ R s => s.heap.get? l = some { cls := .type "tuple", dict := dd, data := .seq items n, slots := sl } ∧ R (.ok (.ret (Value.ref l))) s) :=
  .of_wp fun prog w A R s h => by
    obtain ⟨hp, g, d, tk, os⟩ := s
    obtain ⟨hl, h⟩ := h
    have f1 := AutoSeq1.idx_int
    have c0 : (decide ((1 : Int) < -(2 ^ 63)) || decide ((1 : Int) ≥ 2 ^ 63)) = false := by decide
    wp_walk using wpAny_loadPart' hl
    exact ⟨_, rfl, h⟩
/-- a tuple times an int, itself at one -/
def rRepU (K : PySem.W.Frag) : R2 := fun x y H Q => ∃ l k xs, x = .ref l ∧ y = .int k ∧ SqT K H l xs ∧ xs ≠ [] ∧ 1 ≤ k ∧ k ≤ 1000 ∧ xs.length ≤ 1000 ∧ (k = 1 → Q (.ref l) H) ∧ (2 ≤ k → ∀ p, H p = none → Q (.ref p) (upd H p (.tup (List.replicate k.toNat xs).flatten)))
theorem op_repU {X : Cx} : OpR X (binaryOp .Mult) (rRepU X.K) := by
  intro pins s σ H x y v u Q I rx ry h
  obtain ⟨l, k, xs, rfl, rfl, hT, hne, h1, h2, hz, q1, q2⟩ := h
  by_cases hk : k = 1
  · subst hk
    obtain ⟨t, rfl⟩ := ry
    cases rx
    obtain ⟨its, r, ⟨⟨cls, dd, data, sl⟩, ho, hc, n, hd⟩, hs⟩ := I.tuple hT
    simp only at hc hd
    subst hc hd
    refine wpAny_binaryOp_repeat_ref (T := "tuple") (U := "int") (by decide) ⟨_, ho, rfl⟩ (fun s' => typeIs_int s' 1 t) noFill_tuple_mul F.fills_int_mul F.slot_int_rmul repeat_tuple F.slot_int_index.lookup
      (call_meets F.slot_int_rmul (typeIs_int s 1 t) F.entry_int_rmul (F.args_int_rmul_2 _ _) (int_rmul_tuple 1 t l its.toArray n dd sl)
        ⟨ho, rfl, ⟨_, ho, rfl⟩, call_meets F.slot_tuple_mul ⟨_, ho, rfl⟩ F.entry_tuple_mul (F.args_tuple_mul_2 _ _) (tuple_mul_one l its.toArray n dd sl t) ⟨ho, ?_⟩⟩)
    exact ⟨.ref l, H, I, rfl, q1 rfl⟩
  · exact op_repT pins s σ H _ _ v u Q I rx ry ⟨l, k, xs, rfl, rfl, hT, hne, by omega, h2, hz, q2 (by omega)⟩
/-- a text times an int -/
def timesS (s : Str) (k : Int) : Str := if k = 1 then s else ⟨(List.replicate k.toNat s.cps).foldl (· ++ ·) #[]⟩
theorem foldl_size (a : Array Nat) : ∀ (m : Nat) (b : Array Nat), ((List.replicate m a).foldl (· ++ ·) b).size = b.size + m * a.size
  | 0, b => by simp
  | m + 1, b => by
    rw [List.replicate_succ, List.foldl_cons, foldl_size a m, Array.size_append, Nat.add_mul]
    omega
theorem foldl_mem {a : Array Nat} {c : Nat} : ∀ {m : Nat} {b : Array Nat}, c ∈ ((List.replicate m a).foldl (· ++ ·) b) → c ∈ b ∨ c ∈ a
  | 0, b, h => .inl h
  | m + 1, b, h => by
    rw [List.replicate_succ, List.foldl_cons] at h
    rcases foldl_mem h with q | q
    · exact Array.mem_append.mp q
    · exact .inr q
def rMulS : R2 := fun x y H Q => ∃ s k, x = .str s ∧ y = .int k ∧ 1 ≤ k ∧ k ≤ 1000 ∧ 1 ≤ s.length ∧ s.length ≤ 1000 ∧ Q (.str (timesS s k)) H
theorem op_mulS {X : Cx} : OpR X (binaryOp .Mult) rMulS := by
  intro pins s σ H x y v u Q I rx ry h
  obtain ⟨z, k, rfl, rfl, h1, h2, l1, l2, q⟩ := h
  obtain ⟨t1, rfl⟩ := rx
  obtain ⟨t2, rfl⟩ := ry
  refine PySem.P.mul_str (by rw [decide_eq_false (by omega), decide_eq_false (by omega)]; rfl) (fun _ _ => ?_) (fun _ _ => ?_) ?_
  · have a1 : (1000 : Int) ≤ (2 ^ 63 - 1) / k := (Int.le_ediv_iff_mul_le (by omega)).mpr (by omega)
    omega
  · have a1 : z.length * k.toNat ≤ 1000 * 1000 := Nat.mul_le_mul l2 (by omega)
    show decide (z.length * k.toNat > sizeLine) = false
    rw [sizeLine_eq]
    exact decide_eq_false (by omega)
  · rw [if_neg (show ¬ k < 1 by omega)]
    by_cases hk : k = 1
    · subst hk
      rw [if_pos (by simp)]
      unfold timesS at q
      rw [if_pos rfl] at q
      exact ⟨.str z, H, I, ⟨t1, rfl⟩, q⟩
    · rw [if_neg (by
        have : (k == 1) = false := beq_eq_false_iff_ne.mpr hk
        rw [this, Bool.false_or]
        have : (z.length == 0) = false := beq_eq_false_iff_ne.mpr (by omega)
        rw [this]
        exact Bool.false_ne_true)]
      unfold timesS at q
      rw [if_neg hk] at q
      refine ⟨?_, .str _, H, I.tok _, ⟨_, rfl⟩, q⟩
      show ((List.replicate k.toNat z.cps).foldl (· ++ ·) #[]).size ≤ sizeLine
      rw [foldl_size, sizeLine_eq]
      have a1 : k.toNat * z.cps.size ≤ 1000 * 1000 := Nat.mul_le_mul (by omega) l2
      simp
      omega
theorem times_one (k : Int) (h1 : 1 ≤ k) : (∀ c ∈ (timesS "1" k).cps, c = 49) ∧ (timesS "1" k).length = k.toNat := by
  unfold timesS
  by_cases hk : k = 1
  · subst hk
    rw [if_pos rfl]
    decide +kernel
  · rw [if_neg hk]
    refine ⟨fun c hc => ?_, ?_⟩
    · rcases foldl_mem hc with q | q
      · simp at q
      · revert q
        have : (("1" : Str).cps) = #[49] := by decide +kernel
        rw [this]
        intro q
        simpa using q
    · show ((List.replicate k.toNat ("1" : Str).cps).foldl (· ++ ·) #[]).size = k.toNat
      have : (("1" : Str).cps) = #[49] := by decide +kernel
      rw [foldl_size, this]
      simp
end K48

namespace K48
open PySem PySem.Spec PyProof.Rows L2
/-! ### a local name that holds one of several defs; what the def raises is passed on -/
def AskS (P : Program) (w : World) (K : PySem.W.Frag) (mg : Str → Option Value) (base : Heap) (f : Addr) (sp : Sp) : Prop := ∃ x, mg x = some (.ref f) ∧ Ca P w K mg base (L2.CX P w) 8 x sp
def tAsk (S : Addr → Sp → Prop) (i : Nat) (E : XK) (t : TA) : TE := fun σ H Q => ∃ f sp, σ[i]? = some (some (.ref f)) ∧ S f sp ∧ t σ H fun vs H1 => sp vs H1 Q E
theorem pe_ask {X : Cx} {j i : Nat} {x : Str} {p pos : Pos} {e : Expr} {es : List Expr} {t : TA} (E : XK) (hr : Room j X.A) (tk : Takes X (fun cls d _ H => E cls d H)) (hN : X.N[i]? = some x) (hv : Vis X.env.scope x) (ha : PA X (e :: es) t) (hk : 8 ≤ j := by decide)
    (hdb : (x == ("__debug__" : Str)) = false := by decide) (hcd : (x == ("__classdict__" : Str)) = false := by decide) (he : starEach (e :: es) X.env = (false, eval e X.env) :: starEach es X.env := by rfl) (hpl : (backTo pos (starEach es X.env)).any (·.1) = false := by rfl) :
    PE X (.Call (.Name x p) (e :: es) [] pos) (tAsk (AskS X.prog X.w X.K X.mg X.base) i E t) := by
  refine ⟨fun pins s σ H Q I h => ?_⟩
  obtain ⟨f, sp, hs, ⟨y, hm, c⟩, ht⟩ := h
  obtain ⟨f2, fd, ps, F, hm2, kp, b⟩ := c.ex
  rw [hm] at hm2
  cases hm2
  refine (pe_callL (i := i) (f := f) (sp := sp) (dvs := []) (E := E) F (hr.mono hk) hN hv kp b .nil (passes_call tk fun _ _ _ _ z => z) ha hdb hcd he hpl).run pins s σ H Q I ⟨hs, ?_⟩
  have e0 : (fun (vs : List V) (H1 : Hp) => sp (vs ++ []) H1 Q E) = fun vs H1 => sp vs H1 Q E := by
    funext vs H1
    rw [List.append_nil]
  show t σ H (fun vs H1 => sp (vs ++ []) H1 Q E)
  rw [e0]
  exact ht
/-- _law_fault(lambda: ..) -/
theorem pe_fault {X : Cx} {k : Nat} {c P : Addr} {body : Expr} {scope : Scope} {t : XK → TE} {p lpos pos : Pos} (T : Tx X.K X.mg) (hgl : Gl X "_law_fault") (TB : LamX.TabB X.base X.mg c P) (hcode : X.env.code = .ref c) (hr : Room (k + 2) X.A) (hgd : X.A.guards = some []) (L : LamX.LamS X.env.scope scope)
    (hbody : ∀ (A : Around) (outer : List Env) (s : Shared) (H : Hp) (E : XK) (f c' : Addr), Room k (A.deeper (LamX.lamEnv X scope s.heap.objs.size f c')) → PE (LamX.lamCx X A outer s H E scope f c') body (t E)) :
    PE X (.Call (.Name "_law_fault" p) [.Lambda ⟨[], [], none, [], [], none, []⟩ body scope lpos] [] pos) (LamX.tLam [(P, X.env.qual ++ "<lambda>")] (TFault X.K) t) := by
  obtain ⟨fd, F⟩ := T.f_q_fault
  obtain ⟨oc, od, dV, kV, doc, pm, an, cdv, ct, osl, rfl, lk, hcd, _, _⟩ := F.ex
  exact LamX.pe_lamcall hgl T.m_q_fault F.kp lk hcd (F.bindsN fun _ _ _ _ _ _ us hl => match us, hl with | [_], _ => rfl) sc_fault rfl (.inl rfl) (fault_gives T hr hgd) TB hcode (List.mem_cons_self ..) (fun p hp _ => by
    simp only [List.mem_cons, List.not_mem_nil, or_false] at hp
    rw [hp]) hr L rfl (fun _ _ _ _ _ => rfl) hbody
end K48

namespace K48
open PySem PySem.Spec PyProof.Rows L2
/-- a begin that is refused, shown -/
def BadB (H : Hp) (v : V) : Prop := ∃ d, Da H d v ∧ BegBad d ∧ short d ∧ ReOk (.tuple [.str "row", d])
def BadT (v : V) : Prop := ∃ d, (∀ H, Da H d v) ∧ from0 v = false ∧ ReOk (.tuple [.str "number", .str "turns", d])
def BadP (n : Nat) (H : Hp) (v : V) : Prop := ∃ d, Da H d v ∧ PrBad d n ∧ short d ∧ ReOk (.tuple [.str "row", d])
theorem BadB.kp {H H' : Hp} {v : V} (h : BadB H v) (e : Kp H H') : BadB H' v := let ⟨d, h1, h2⟩ := h; ⟨d, h1.kp e, h2⟩
theorem BadP.kp {n : Nat} {H H' : Hp} {v : V} (h : BadP n H v) (e : Kp H H') : BadP n H' v := let ⟨d, h1, h2⟩ := h; ⟨d, h1.kp e, h2⟩
theorem short_row {ds : List PyData} (h : ds.length ≤ 1000) : short (.list ds) ∧ short (.tuple ds) := ⟨fun es e => by cases e; exact h, fun es e => by cases e; exact h⟩
theorem short_leaf {d : PyData} (h : rowD d = none) : short d := fun ds e => by rw [h] at e; cases e
def d3 : PyData := .list [.tuple [.int 0]]
def d4 : PyData := .list [.tuple [.int 0, .int 1], .tuple [.str "a", .int 2], .tuple [.int 0, .int 2]]
def d5 : PyData := .list [.tuple [.int (-1), .int 1]]
def d6 : PyData := .list [.tuple [.bool true, .int 1]]
def d7 : PyData := .list [.tuple [.str "a", .bool true]]
def d8 : PyData := .list [.str "ab"]
theorem bb_bad : BegBad .none ∧ BegBad (.int 5) ∧ BegBad d3 ∧ BegBad d4 ∧ BegBad d5 ∧ BegBad d6 ∧ BegBad d7 ∧ BegBad d8 := by
  refine ⟨.inl rfl, .inl rfl, .inr ⟨_, rfl, .inl rfl⟩, .inr ⟨_, rfl, .inr ⟨_, rfl, by decide +kernel⟩⟩, .inr ⟨_, rfl, .inl rfl⟩, .inr ⟨_, rfl, .inl rfl⟩, .inr ⟨_, rfl, .inl rfl⟩, .inr ⟨_, rfl, .inl rfl⟩⟩
theorem re_row : ∀ d ∈ [PyData.none, .int 5, d3, d4, d5, d6, d7, d8], ReOk (.tuple [.str "row", d]) := by
  intro d hd
  simp only [List.mem_cons, List.not_mem_nil, or_false] at hd
  rcases hd with rfl | rfl | rfl | rfl | rfl | rfl | rfl | rfl <;> exact ⟨rfl, by decide +kernel, rfl, by decide +kernel, by decide +kernel⟩
theorem re_turn : ∀ d ∈ [PyData.int (-1), .none, .bool true, .str "2"], ReOk (.tuple [.str "number", .str "turns", d]) := by
  intro d hd
  simp only [List.mem_cons, List.not_mem_nil, or_false] at hd
  rcases hd with rfl | rfl | rfl | rfl <;> exact ⟨rfl, by decide +kernel, rfl, by decide +kernel, by decide +kernel⟩
theorem badT_all : ∀ v ∈ [V.int (-1), .non, .bl true, .str "2"], BadT v := by
  intro v hv
  simp only [List.mem_cons, List.not_mem_nil, or_false] at hv
  rcases hv with rfl | rfl | rfl | rfl
  · exact ⟨.int (-1), fun H => Da.int.mpr rfl, rfl, re_turn _ (by simp)⟩
  · exact ⟨.none, fun H => Da.none.mpr rfl, rfl, re_turn _ (by simp)⟩
  · exact ⟨.bool true, fun H => Da.bool.mpr rfl, rfl, re_turn _ (by simp)⟩
  · exact ⟨.str "2", fun H => Da.str.mpr rfl, rfl, re_turn _ (by simp)⟩
theorem re_of {d : PyData} (h1 : d.showable = true) (h2 : d.hasDict = false) (h3 : d.depth ≤ 50) (h4 : sbd d ≤ 1000000) : ReOk (.tuple [.str "row", d]) := by
  have sr : (PyData.str "row").showable = true := by decide +kernel
  have br : sbd (PyData.str "row") ≤ 100 := by decide +kernel
  have sh : (PyData.tuple [.str "row", d]).showable = true := by
    refine (showAll_iff _).mpr fun e he => ?_
    simp only [List.mem_cons, List.not_mem_nil, or_false] at he
    rcases he with rfl | rfl
    · exact sr
    · exact h1
  refine ⟨rfl, sh, ?_, ?_, Nat.le_trans (shown_le _ sh) ?_⟩
  · refine hasDictAll_iff _ fun e he => ?_
    simp only [List.mem_cons, List.not_mem_nil, or_false] at he
    rcases he with rfl | rfl
    · rfl
    · exact h2
  · simp only [PyData.depth, PyData.depthAll]
    omega
  · simp only [sbd, sbdL] at br ⊢
    rw [sizeLine_eq]
    omega
theorem re_rep {d : PyData} {n : Nat} (hn : n ≤ 200) (h1 : d.showable = true) (h2 : d.hasDict = false) (h3 : d.depth ≤ 10) (h4 : sbd d ≤ 2000) : ReOk (.tuple [.str "row", .list (List.replicate n d)]) ∧ ReOk (.tuple [.str "row", .tuple (List.replicate n d)]) := by
  have a1 : PyData.showableAll (List.replicate n d) = true := (showAll_iff _).mpr fun e he => by
    rw [List.eq_of_mem_replicate he]
    exact h1
  have a2 : PyData.hasDictAll (List.replicate n d) = false := hasDictAll_iff _ fun e he => by
    rw [List.eq_of_mem_replicate he]
    exact h2
  have a3 : PyData.depthAll (List.replicate n d) ≤ 10 := depthAll_le _ fun e he => by
    rw [List.eq_of_mem_replicate he]
    exact h3
  have a4 : sbdL (List.replicate n d) ≤ n * 2002 := by
    have := sbdL_le (n := 2000) (ds := List.replicate n d) fun e he => by
      rw [List.eq_of_mem_replicate he]
      exact h4
    rwa [List.length_replicate] at this
  refine ⟨re_of a1 a2 ?_ ?_, re_of a1 a2 ?_ ?_⟩
  · simp only [PyData.depth]
    omega
  · simp only [sbd]
    omega
  · simp only [PyData.depth]
    omega
  · simp only [sbd]
    omega
theorem ones_len : (List.range 19).all (fun m => decide ((reprText (timesS "1" (m : Int))).length ≤ 1000)) = true := by decide +kernel
theorem re_ones {m : Nat} (h : m ≤ 18) : ReOk (.tuple [.str "row", .str (timesS "1" (m : Int))]) := by
  refine re_of rfl rfl (by simp [PyData.depth]) ?_
  have := of_decide_eq_true (List.all_eq_true.mp ones_len m (List.mem_range.mpr (by omega)))
  show (reprText (timesS "1" (m : Int))).length ≤ 1000000
  omega
theorem sbd_small : sbd (.int 0) ≤ 2000 ∧ sbd (.int 1) ≤ 2000 ∧ sbd (.int (-1)) ≤ 2000 ∧ sbd (.bool true) ≤ 2000 := by decide +kernel
theorem replicate_da {H : Hp} {d : PyData} {v : V} (h : Da H d v) : ∀ n : Nat, DaL H (List.replicate n d) (List.replicate n v)
  | 0 => DaL.nil.mpr rfl
  | n + 1 => DaL.cons.mpr ⟨v, _, rfl, h, replicate_da h n⟩
/-- prices of a wrong number, or each of them wrong -/
theorem badP_list {H : Hp} {n m : Nat} {i : Int} {a : Addr} (hm : m ≤ 200) (hi : i = 0 ∨ i = 1 ∨ i = -1) (ha : H a = some (.lst (List.replicate m (.int i)))) (h : m ≠ n ∨ (i = -1 ∧ 1 ≤ m)) : BadP n H (.ref a) := by
  have si : (PyData.int i).showable = true ∧ sbd (.int i) ≤ 2000 := by
    obtain ⟨q1, q2, q3, _⟩ := sbd_small
    rcases hi with rfl | rfl | rfl
    · exact ⟨by decide +kernel, q1⟩
    · exact ⟨by decide +kernel, q2⟩
    · exact ⟨by decide +kernel, q3⟩
  refine ⟨.list (List.replicate m (.int i)), Da.lst.mpr ⟨a, _, rfl, ha, replicate_da (Da.int.mpr rfl) m⟩, .inr ⟨_, rfl, ?_⟩, (short_row (by rw [List.length_replicate]; omega)).1, (re_rep hm si.1 rfl (by simp [PyData.depth]) si.2).1⟩
  rcases h with h | ⟨h, h1⟩
  · exact .inl (by rw [List.length_replicate]; exact h)
  · refine .inr ⟨.int i, List.mem_replicate.mpr ⟨by omega, rfl⟩, ?_⟩
    rw [h]
    rfl
theorem badP_tup {H : Hp} {n m : Nat} {a : Addr} (hm : m ≤ 200) (h1 : 1 ≤ m) (ha : H a = some (.tup (List.replicate m (.bl true)))) : BadP n H (.ref a) :=
  ⟨.tuple (List.replicate m (.bool true)), Da.tup.mpr ⟨a, _, rfl, ha, replicate_da (Da.bool.mpr rfl) m⟩, .inr ⟨_, rfl, .inr ⟨.bool true, List.mem_replicate.mpr ⟨by omega, rfl⟩, rfl⟩⟩, (short_row (by rw [List.length_replicate]; omega)).2, (re_rep hm rfl rfl (by simp [PyData.depth]) sbd_small.2.2.2).2⟩
theorem badP_non {H : Hp} {n : Nat} : BadP n H .non := ⟨.none, Da.none.mpr rfl, .inl rfl, short_leaf rfl, re_row _ (by simp)⟩
theorem badP_str {H : Hp} {n m : Nat} (h : m ≤ 18) : BadP n H (.str (timesS "1" (m : Int))) := ⟨.str _, Da.str.mpr rfl, .inl rfl, short_leaf rfl, re_ones h⟩
end K48

namespace K48
open PySem PySem.Spec PyProof.Rows L2
theorem extN_kp {H H' : Hp} (e : LamX.ExtN H H') : Kp H H' := ⟨fun a xs q => e _ _ q (fun _ z => by cases z), fun a xs q => e _ _ q (fun _ z => by cases z)⟩
theorem extN_kt {H H' : Hp} (e : LamX.ExtN H H') : Kt H H' := ⟨fun a xs q => e _ _ q (fun _ z => by cases z), fun a C dx fs q => e _ _ q (fun _ z => by cases z)⟩
theorem repU_of {K : PySem.W.Frag} {H : Hp} {a : Addr} {k : Int} {xs : List V} {Q : VK} (ha : H a = some (.tup xs)) (hne : xs ≠ []) (h1 : 1 ≤ k) (h2 : k ≤ 1000) (hl : xs.length ≤ 1000) (q : ∀ H' t, Same H H' → H' t = some (.tup (List.replicate k.toNat xs).flatten) → Q (.ref t) H') : rRepU K (.ref a) (.int k) H Q :=
  ⟨a, k, xs, rfl, rfl, SqT.of ha, hne, h1, h2, hl, fun e => q H a (Same.refl _) (by rw [e, ha]; simp), fun _ t nt => q _ t (same_new nt) upd_same⟩
theorem pen_extN {n : Nat} {H H' : Hp} {p c : Addr} {ns : List Int} (e : LamX.ExtN H H') (h : PenOk n H p c ns) : PenOk n H' p c ns := by
  obtain ⟨l, a, d, ct, f, h⟩ := h
  exact ⟨l, a, d, ct, f, e _ _ h.p (fun _ z => by cases z), e _ _ h.c (fun _ z => by cases z), h.a0, h.a1, h.d, h.c0, h.c1, h.f0, h.f1⟩
theorem tabs_sx {n : Nat} {H H' : Hp} {p c : Addr} {ns : List Int} {T : List (Addr × Str)} (h : PenOk n H p c ns) (t : LamX.Tabs T H) (e : Sx (· = p) H H') : LamX.Tabs T H' := fun q hq => by
  obtain ⟨kvs, hp⟩ := h.pd
  obtain ⟨ps, h1, h2, h3⟩ := t q hq
  have st : ∀ b o, H b = some o → (∀ kvs, o ≠ .dK kvs) → H' b = some o := fun b o hb hn => e b o (fun z => by
    rw [show b = p from z, hp] at hb
    cases hb
    exact hn _ rfl) hb
  refine ⟨ps, st _ _ h1 (fun _ z => by cases z), h2, fun pos cv hc => ?_⟩
  obtain ⟨c', e1, e2⟩ := h3 pos cv hc
  exact ⟨c', e1, st _ _ e2 (fun _ z => by unfold LamX.CodeO at z; cases z)⟩
theorem bbk {H H' : Hp} {d : PyData} {v : V} (h1 : Da H d v) (h2 : BegBad d) (h3 : short d) (h4 : ReOk (.tuple [.str "row", d])) (e : Same H H') : BadB H' v := ⟨d, h1.kp (Kp.of e), h2, h3, h4⟩
section
variable {P : Program} {w : World} {K : PySem.W.Frag} {mg : Str → Option Value} {base : Heap}
/-- a def without guards around it, its code object known -/
theorem cgT0 {x : Str} {st : Stmt} {N ps : List Str} {k : Nat} {sp : Sp} (F : ∃ fd, FunD K x x (defArgs st) (defBody st) (defScope st) [] [] (He.ga K x) fd) (m : mg x = some (.ref (He.ga K x))) (S : FnScope N ps (defScope st)) (b : BindP x x st ps) (len : ∀ vs H Q E, sp vs H Q E → vs.length = ps.length)
    (hb : ∀ (A : Around) (outer : List Env) (s : Shared) (H : Hp) (vs : List V) (Q : VK) (E : XK), Room k (A.deeper (envOfC x (defScope st) s.heap.objs.size (He.ga K x) (.ref (He.codeOf K (x, none))))) → A.guards = some [] → sp vs H Q E →
      ∃ t, PSs (cxOf CX0 P w K mg base N x (defScope st) (He.ga K x) (.ref (He.codeOf K (x, none))) A outer s H E).nox (defBody st) t ∧ t { nx := fun _ H' => Q .non H', rt := Q } (L2.start N vs) H) : Cg P w K mg base (k + 1) x sp := by
  obtain ⟨fd, F⟩ := F
  refine ⟨He.ga K x, fd, ps, ?_, m, F.kp, F.bindsN b⟩
  obtain ⟨oc, od, dV, kV, doc, pm, an, cdv, ct, osl, rfl, lk, hcd, _, _⟩ := F.ex
  obtain ⟨c, rfl⟩ := He.codeIn_ref hcd
  have ec : He.codeOf K (x, none) = c := He.codeOf_eq (p := (x, none)) lk rfl
  rw [ec] at hb
  exact ⟨len, fun A outer s H args us vs Q E hr hg e0 hbd r hsp => LamX.run_ofS lk hcd S hr e0 hbd r (len _ _ _ _ hsp) fun hr' => let ⟨t, h1, h2⟩ := hb A outer s H vs Q E hr' hg hsp; ⟨t, h1.nox, h2⟩⟩
/-- a def that drives, asked something bad -/
def spBad (CB CN C CS : Addr) (vs : List V) (H : Hp) (E : XK) : Prop := ∃ (c : Addr) (bg tn : V) (d td : PyData) (as : List Addr) (ss : List Sp1), vs = [.ref c, bg, tn] ∧ CodeS C CS H c as ss ∧ StepsOk ss ∧ Da H d bg ∧ short d ∧ Da H td tn ∧
  ((BegBad d ∧ ∀ H' dd, Same H H' → H' dd = some (.xd [("value", bg)]) → E (.ref CB) (some dd) H') ∨
    ((∃ h, BegOk d h) ∧ from0 tn = false ∧ ∀ H' dd, Same H H' → H' dd = some (.xd [("value", tn), ("what", .str "turns")]) → E (.ref CN) (some dd) H'))
theorem spBad.of {CB CN C CS : Addr} {G : Run → Hp → VK → Prop} {vs : List V} {H : Hp} {Q : VK} {E : XK} (h : spBad CB CN C CS vs H E) : spOf CB CN C CS G vs H Q E := by
  obtain ⟨c, bg, tn, d, td, as, ss, h1, h2, h3, h4, h5, h6, h7⟩ := h
  exact ⟨c, bg, tn, d, td, as, ss, h1, h2, h3, h4, h5, h6, .inr h7⟩
def AskBad (P : Program) (w : World) (K : PySem.W.Frag) (mg : Str → Option Value) (base : Heap) (x : V) : Prop := ∃ f sp, x = .ref f ∧ AskS P w K mg base f sp ∧ ∀ vs H Q E, spBad (cBR K) (cBN K) (He.ga K "Code") (He.ga K "Step") vs H E → sp vs H Q E
theorem ask_three (T : Tx K mg) : ∀ x ∈ [V.ref (He.ga K "run_code"), .ref (He.ga K "state_after"), .ref (He.ga K "pieces_after")], AskBad P w K mg base x := by
  intro x hx
  simp only [List.mem_cons, List.not_mem_nil, or_false] at hx
  rcases hx with rfl | rfl | rfl
  · exact ⟨_, _, rfl, ⟨_, T.m_run_code, ca_run_code T⟩, fun vs H Q E h => h.of⟩
  · exact ⟨_, _, rfl, ⟨_, T.m_state_after, ca_state_after T⟩, fun vs H Q E h => h.of⟩
  · exact ⟨_, _, rfl, ⟨_, T.m_pieces_after, ca_pieces_after T⟩, fun vs H Q E h => h.of⟩
def spRefused (P0 : Addr) (C CS : Addr) : Sp := fun vs H Q _ => ∃ (p c cd : Addr) (ns : List Int) (n : Nat) (as : List Addr) (ss : List Sp1), vs = [.ref p, .ref cd, .int ss.length] ∧ PenOk n H p c ns ∧ n + 10 ≤ 1000000 ∧ CodeS C CS H cd as ss ∧ StepsOk ss ∧ ss ≠ [] ∧ ss.length ≤ 18 ∧ H P0 = some (.tbl #[]) ∧ ∀ H', Q (.bl true) H'
abbrev nRF : List Str := ["_law_pen_here", "_law_code", "_law_many", "_law_bad", "_law_turns", "_law_ask", "_law_prices"]
theorem sc_refused : FnScope nRF ["_law_pen_here", "_law_code", "_law_many"] (defScope s__law_refused_right) := ⟨rfl, rfl, rfl, by decide +kernel, rfl, by decide +kernel, by decide +kernel⟩
theorem cg_refused (T : Tx K mg) (P0 : Addr) (TB : LamX.TabB base mg (He.codeOf K ("_law_refused_right", none)) P0) : Cg P w K mg base 12 "_law_refused_right" (spRefused P0 (He.ga K "Code") (He.ga K "Step")) := by
  refine cgT0 T.f_q_refused_right T.m_q_refused_right sc_refused (fun _ _ _ _ _ _ us hl => match us, hl with | [_, _, _], _ => rfl) (fun vs H Q E h => ?_) (fun A outer s H vs Q E hr hg h => ?_)
  · obtain ⟨p, c, cd, ns, n, as, ss, rfl, _⟩ := h
    rfl
  · obtain ⟨p, c, cd, ns, n, as, ss, rfl, hp, hn, hcd, hok, hne, hl18, hP, k⟩ := h
    have c1 := ca_pick (P := P) (w := w) (base := base) T
    have u64 := hr.units
    refine ⟨_, pss_cons (ps_set (i := 3) sc_refused.nd rfl (Or.inr rfl) (pe_ca c1 hr (pa_cons (pv 0) (pa_cons (pe_lst (pa_cons pe_non (pa_cons pe_int (pa_cons (pe_lst (pa_cons (pe_tup (pa_cons pe_int pa_nil)) pa_nil)) (pa_cons (pe_lst (pa_cons (pe_tup (pa_cons pe_int (pa_cons pe_int pa_nil))) (pa_cons (pe_tup (pa_cons pe_str (pa_cons pe_int pa_nil))) (pa_cons (pe_tup (pa_cons pe_int (pa_cons pe_int pa_nil))) pa_nil)))) (pa_cons (pe_lst (pa_cons (pe_tup (pa_cons (pe_un un_neg pe_int) (pa_cons pe_int pa_nil))) pa_nil)) (pa_cons (pe_lst (pa_cons (pe_tup (pa_cons pe_bl (pa_cons pe_int pa_nil))) pa_nil)) (pa_cons (pe_lst (pa_cons (pe_tup (pa_cons pe_str (pa_cons pe_bl pa_nil))) pa_nil)) (pa_cons (pe_lst (pa_cons pe_str pa_nil)) pa_nil))))))))) pa_nil))))
      (pss_cons (ps_set (i := 4) sc_refused.nd rfl (Or.inr rfl) (pe_ca c1 hr (pa_cons (pv 0) (pa_cons (pe_lst (pa_cons (pe_un un_neg pe_int) (pa_cons pe_non (pa_cons pe_bl (pa_cons pe_str pa_nil))))) pa_nil))))
      (pss_cons (ps_for PassesOwn.never rfl (pi_list (pe_lst (pa_cons (pe_glob (v := .ref (He.ga K "run_code")) (by rfl) T.m_run_code rfl) (pa_cons (pe_glob (v := .ref (He.ga K "state_after")) (by rfl) T.m_state_after rfl) (pa_cons (pe_glob (v := .ref (He.ga K "pieces_after")) (by rfl) T.m_pieces_after rfl) pa_nil))))) (pg_name (i := 5) sc_refused.nd rfl (Or.inr rfl))
        (pss_cons (ps_if (pt_cmpR op_ne (pe_fault (k := 8) (t := fun E => tAsk (AskS P w K mg base) 5 E (tCons (tVar 1) (tCons (tVar 3) (tCons (tVar 4) tNil)))) T rfl TB rfl (hr.mono (by decide)) hg (LamX.lamS_by (by rfl)) (fun A1 outer1 s1 H1 E1 f1 c1 hr1 => pe_ask E1 hr1 (takes_of rfl rfl rfl rfl) rfl (.inr (.inr rfl)) (pa_cons (pv 1) (pa_cons (pv 3) (pa_cons (pv 4) pa_nil))))) (pe_callB (call_reprD hg u64) (by rfl) T.z_repr (by decide +kernel) (pa_cons (pe_tup (pa_cons pe_str (pa_cons (pv 3) pa_nil))) pa_nil)) (nomark _)) (pss_one ps_never) pss_nil)
        (pss_one (ps_if (pt_cmpR op_ne (pe_fault (k := 8) (t := fun E => tAsk (AskS P w K mg base) 5 E (tCons (tVar 1) (tCons (tLst (tCons (tTup (tCons (tC (.str "a")) (tCons (tC (.int 1)) tNil))) tNil)) (tCons (tVar 4) tNil)))) T rfl TB rfl (hr.mono (by decide)) hg (LamX.lamS_by (by rfl)) (fun A1 outer1 s1 H1 E1 f1 c1 hr1 => pe_ask E1 hr1 (takes_of rfl rfl rfl rfl) rfl (.inr (.inr rfl)) (pa_cons (pv 1) (pa_cons (pe_lst (pa_cons (pe_tup (pa_cons pe_str (pa_cons pe_int pa_nil))) pa_nil)) (pa_cons (pv 4) pa_nil))))) (pe_callB (call_reprD hg u64) (by rfl) T.z_repr (by decide +kernel) (pa_cons (pe_tup (pa_cons pe_str (pa_cons pe_str (pa_cons (pv 4) pa_nil)))) pa_nil)) (nomark _)) (pss_one ps_never) pss_nil))))
      (pss_cons (ps_set (i := 6) sc_refused.nd rfl (Or.inr rfl) (pe_ca c1 hr (pa_cons (pv 0) (pa_cons (pe_lst (pa_cons pe_non (pa_cons (pe_op op_rep (pe_lst (pa_cons pe_int pa_nil)) (pe_op op_add (pv 2) pe_int)) (pa_cons (pe_op op_rep (pe_lst (pa_cons pe_int pa_nil)) (pe_op op_sub (pv 2) pe_int)) (pa_cons (pe_op op_rep (pe_lst (pa_cons (pe_un un_neg pe_int) pa_nil)) (pv 2)) (pa_cons (pe_op op_repU (pe_tup (pa_cons pe_bl pa_nil)) (pv 2)) (pa_cons (pe_op op_mulS pe_str (pv 2)) pa_nil))))))) pa_nil))))
      (pss_one (ps_ret (pe_cmpR op_eq (pe_fault (k := 8) (t := fun E => tCall (spCodeCost (cBR K) (He.ga K "Code") (He.ga K "Step")) [] E (tCons (tVar 1) (tCons (tVar 6) tNil))) T rfl TB rfl (hr.mono (by decide)) hg (LamX.lamS_by (by rfl)) (fun A1 outer1 s1 H1 E1 f1 c1 hr1 => pe_caE E1 (ca_code_cost (P := P) (w := w) (base := base) T) hr1 (takes_of rfl rfl rfl rfl) (pa_cons (pv 1) (pa_cons (pv 6) pa_nil)))) (pe_callB (call_reprD hg u64) (by rfl) T.z_repr (by decide +kernel) (pa_cons (pe_tup (pa_cons pe_str (pa_cons (pv 6) pa_nil))) pa_nil)) (nomark _))))))), ?_⟩
    have l1 : ∀ {n : Nat}, n ≤ 1000 → n ≤ sizeLine := fun {n} h => by rw [sizeLine_eq]; omega
    refine ⟨_, rfl, l1 (by simp), fun t1 n1 => ⟨l1 (by simp), fun a1 m1 => ⟨l1 (by simp), fun t2 n2 => ⟨l1 (by simp), fun t3 n3 => ⟨l1 (by simp), fun t4 n4 => ⟨l1 (by simp), fun a2 m2 => ?_⟩⟩⟩⟩⟩⟩
    refine ⟨_, rfl, l1 (by simp), fun t5 n5 => ⟨l1 (by simp), fun a3 m3 => ⟨l1 (by simp), fun t6 n6 => ⟨l1 (by simp), fun a4 m4 => ⟨l1 (by simp), fun t7 n7 => ⟨l1 (by simp), fun a5 m5 => ⟨l1 (by simp), fun a6 m6 => ⟨l1 (by simp), fun aL mL => ?_⟩⟩⟩⟩⟩⟩⟩⟩
    have e1 := same_new (o := .tup [.int 0]) n1
    have f1 := same_new (o := .lst [.ref t1]) m1
    have e2 := same_new (o := .tup [.int 0, .int 1]) n2
    have e3 := same_new (o := .tup [.str "a", .int 2]) n3
    have e4 := same_new (o := .tup [.int 0, .int 2]) n4
    have f2 := same_new (o := .lst [.ref t2, .ref t3, .ref t4]) m2
    have e5 := same_new (o := .tup [.int (-1), .int 1]) n5
    have f3 := same_new (o := .lst [.ref t5]) m3
    have e6 := same_new (o := .tup [.bl true, .int 1]) n6
    have f4 := same_new (o := .lst [.ref t6]) m4
    have e7 := same_new (o := .tup [.str "a", .bl true]) n7
    have f5 := same_new (o := .lst [.ref t7]) m5
    have f6 := same_new (o := .lst [.str "ab"]) m6
    have f7 := same_new (o := .lst [.non, .int 5, .ref a1, .ref a2, .ref a3, .ref a4, .ref a5, .ref a6]) mL
    have one : ∀ {H : Hp} {d : PyData} {v : V}, Da H d v → DaL H [d] [v] := fun h => DaL.cons.mpr ⟨_, _, rfl, h, DaL.nil.mpr rfl⟩
    have two : ∀ {H : Hp} {d d' : PyData} {v v' : V}, Da H d v → Da H d' v' → DaL H [d, d'] [v, v'] := fun h g => DaL.cons.mpr ⟨_, _, rfl, h, DaL.cons.mpr ⟨_, _, rfl, g, DaL.nil.mpr rfl⟩⟩
    have g1 := f6.trans f7
    have b8 := bbk (d := d8) (Da.lst.mpr ⟨a6, _, rfl, upd_same, one (Da.str.mpr rfl)⟩) bb_bad.2.2.2.2.2.2.2 (short_row (by simp)).1 (re_row _ (by simp)) f7
    have b7 := bbk (d := d7) (Da.lst.mpr ⟨a5, _, rfl, upd_same, one ((Da.tup.mpr ⟨t7, _, rfl, upd_same, two (Da.str.mpr rfl) (Da.bool.mpr rfl)⟩).kp (Kp.of f5))⟩) bb_bad.2.2.2.2.2.2.1 (short_row (by simp)).1 (re_row _ (by simp)) g1
    have g2 := e7.trans (f5.trans g1)
    have b6 := bbk (d := d6) (Da.lst.mpr ⟨a4, _, rfl, upd_same, one ((Da.tup.mpr ⟨t6, _, rfl, upd_same, two (Da.bool.mpr rfl) (Da.int.mpr rfl)⟩).kp (Kp.of f4))⟩) bb_bad.2.2.2.2.2.1 (short_row (by simp)).1 (re_row _ (by simp)) g2
    have g3 := e6.trans (f4.trans g2)
    have b5 := bbk (d := d5) (Da.lst.mpr ⟨a3, _, rfl, upd_same, one ((Da.tup.mpr ⟨t5, _, rfl, upd_same, two (Da.int.mpr rfl) (Da.int.mpr rfl)⟩).kp (Kp.of f3))⟩) bb_bad.2.2.2.2.1 (short_row (by simp)).1 (re_row _ (by simp)) g3
    have g4 := e5.trans (f3.trans g3)
    have b4 := bbk (d := d4) (Da.lst.mpr ⟨a2, _, rfl, upd_same, DaL.cons.mpr ⟨_, _, rfl, (Da.tup.mpr ⟨t2, _, rfl, upd_same, two (Da.int.mpr rfl) (Da.int.mpr rfl)⟩).kp (Kp.of (e3.trans (e4.trans f2))), two ((Da.tup.mpr ⟨t3, _, rfl, upd_same, two (Da.str.mpr rfl) (Da.int.mpr rfl)⟩).kp (Kp.of (e4.trans f2))) ((Da.tup.mpr ⟨t4, _, rfl, upd_same, two (Da.int.mpr rfl) (Da.int.mpr rfl)⟩).kp (Kp.of f2))⟩⟩) bb_bad.2.2.2.1 (short_row (by simp)).1 (re_row _ (by simp)) g4
    have g5 := e2.trans (e3.trans (e4.trans (f2.trans g4)))
    have b3 := bbk (d := d3) (Da.lst.mpr ⟨a1, _, rfl, upd_same, one ((Da.tup.mpr ⟨t1, _, rfl, upd_same, one (Da.int.mpr rfl)⟩).kp (Kp.of f1))⟩) bb_bad.2.2.1 (short_row (by simp)).1 (re_row _ (by simp)) g5
    have g6 := e1.trans (f1.trans g5)
    refine ⟨p, c, aL, ns, n, _, rfl, hp.same g6, by omega, upd_same, by simp, by simp, fun HB bv sB hpB hbv => ?_⟩
    have kpB := (hp.same g6).kp sB
    have bbv : BadB HB bv := by
      have hall : bv = .non ∨ bv = .int 5 ∨ bv = .ref a1 ∨ bv = .ref a2 ∨ bv = .ref a3 ∨ bv = .ref a4 ∨ bv = .ref a5 ∨ bv = .ref a6 := by simpa using hbv
      rcases hall with rfl | rfl | rfl | rfl | rfl | rfl | rfl | rfl
      · exact ⟨.none, Da.none.mpr rfl, bb_bad.1, short_leaf rfl, re_row _ (by simp)⟩
      · exact ⟨.int 5, Da.int.mpr rfl, bb_bad.2.1, short_leaf rfl, re_row _ (by simp)⟩
      · exact b3.kp kpB
      · exact b4.kp kpB
      · exact b5.kp kpB
      · exact b6.kp kpB
      · exact b7.kp kpB
      · exact b8.kp kpB
    have sxB : Sx (· = p) H HB := (Sx.ofSame g6).trans sB
    -- the turns
    refine ⟨_, rfl, _, rfl, l1 (by simp), fun aT mT => ?_⟩
    have fT := same_new (o := .lst [.int (-1), .non, .bl true, .str "2"]) mT
    refine ⟨p, c, aT, ns, n + 1, _, rfl, hpB.same fT, by omega, upd_same, by simp, by simp, fun HT tv sT hpT htv => ?_⟩
    obtain ⟨dT, daT, f0T, reT⟩ := badT_all tv htv
    have sxT : Sx (· = p) H HT := sxB.trans ((Sx.ofSame fT).trans sT)
    obtain ⟨dB, daB, bbB, shB, reB⟩ := bbv.kp ((hpB.same fT).kp sT |> fun q => (Kp.of fT).trans q)
    have kpT : Kp H HT := hp.kp sxT
    have hcdT : CodeS (He.ga K "Code") (He.ga K "Step") HT cd as ss := hcd.kt (pen_kt hp sxT)
    have hPT : HT P0 = some (.tbl #[]) := by
      obtain ⟨kvs, hpd⟩ := hp.pd
      exact sxT _ _ (fun z => by rw [show P0 = p from z, hpd] at hP; cases hP) hP
    clear hbv b3 b4 b5 b6 b7 b8
    refine ⟨l1 (by simp), fun aF mF => ⟨aF, rfl, ⟨_, SqL.of upd_same⟩, ?_⟩⟩
    have fF := same_new (o := .lst [V.ref (He.ga K "run_code"), .ref (He.ga K "state_after"), .ref (He.ga K "pieces_after")]) mF
    refine for_list (K := K) (a := aF) (xs := [V.ref (He.ga K "run_code"), .ref (He.ga K "state_after"), .ref (He.ga K "pieces_after")]) (fun i σ H2 => ∃ v, σ = [some (.ref p), some (.ref cd), some (.int ss.length), some bv, some tv, v, none] ∧ LamX.ExtN (upd HT aF (.lst [V.ref (He.ga K "run_code"), .ref (He.ga K "state_after"), .ref (He.ga K "pieces_after")])) H2 ∧ LamX.Tabs [(P0, "_law_refused_right.<locals>.<lambda>")] H2)
      ⟨none, rfl, LamX.ExtN.refl _, ?_⟩ (fun i σ H2 _ ⟨_, _, q, _⟩ => SqL.of (q _ _ upd_same fun ps z => by cases z)) ?_ ?_
    · intro q hq
      simp only [List.mem_cons, List.not_mem_nil, or_false] at hq
      rw [hq]
      exact LamX.TabS.nil (fF _ _ hPT)
    · rintro i x σ H2 hi ⟨v, rfl, eN, tb⟩
      obtain ⟨f, sp, rfl, hS, hbad⟩ := ask_three (P := P) (w := w) (base := base) T x (List.mem_of_getElem? hi)
      have e0 : LamX.ExtN HT _ := (LamX.ExtN.of fF).trans eN
      refine ⟨tb, fun H3 e3 T3 R => ?_⟩
      have e03 := e0.trans e3
      refine ⟨f, sp, rfl, hS, _, rfl, _, rfl, _, rfl, hbad _ _ _ _ ⟨cd, bv, tv, dB, dT, as, ss, rfl, hcdT.kt (extN_kt e03), hok, daB.kp (extN_kp e03), shB, daT _, .inl ⟨bbB, fun H4 dd s4 h4 => .inr ⟨dd, bv, dB, rfl, rfl, h4, (daB.kp (extN_kp e03)).kp (Kp.of s4), reB, fun H5 s5 => ?_⟩⟩⟩⟩
      refine ⟨_, rfl, l1 (by simp), fun t8 n8 => ?_⟩
      have s58 := same_new (o := .tup [.str "row", bv]) n8
      have s48 := s4.trans (s5.trans s58)
      refine ⟨.tuple [.str "row", dB], .ref t8, rfl, (Da.two upd_same (Da.str.mpr rfl) (((daB.kp (extN_kp e03)).kp (Kp.of s48)))).dp, reB.i, reB.s, reB.n, reB.dp, reB.l, ?_⟩
      refine ⟨rfl, _, rfl, if_f (by rw [decide_eq_true rfl]; rfl) ?_⟩
      -- the turns
      have e0' : LamX.ExtN H3 _ := LamX.ExtN.of s48
      have e05 := e03.trans e0'
      refine ⟨T3.ext s48, fun H6 e6 T6 R2 => ?_⟩
      have e06 := e05.trans e6
      refine ⟨f, sp, rfl, hS, _, rfl, l1 (by simp), fun t9 n9 => ⟨l1 (by simp), fun a9 m9 => ?_⟩⟩
      have s9 := same_new (o := .tup [.str "a", .int 1]) n9
      have s10 := same_new (o := .lst [.ref t9]) m9
      have s910 := s9.trans s10
      refine ⟨_, rfl, hbad _ _ _ _ ⟨cd, .ref a9, tv, .list [.tuple [.str "a", .int 1]], dT, as, ss, rfl, (hcdT.kt (extN_kt e06)).same s910, hok, Da.lst.mpr ⟨a9, _, rfl, upd_same, one ((Da.tup.mpr ⟨t9, _, rfl, upd_same, two (Da.str.mpr rfl) (Da.int.mpr rfl)⟩).kp (Kp.of s10))⟩, (short_row (by simp)).1, daT _, .inr ⟨⟨[(Sum.inr "a", 1)], ?_⟩, f0T, fun H7 dd s7 h7 => .inl ⟨dd, tv, dT, "turns", rfl, rfl, h7, daT _, reT, fun H8 s8 => ?_⟩⟩⟩⟩
      · exact ⟨⟨_, rfl, rfl⟩, by simp⟩
      refine ⟨_, rfl, l1 (by simp), fun t10 n10 => ?_⟩
      have s11 := same_new (o := .tup [.str "number", .str "turns", tv]) n10
      refine ⟨.tuple [.str "number", .str "turns", dT], .ref t10, rfl, (Da.three upd_same (Da.str.mpr rfl) (Da.str.mpr rfl) (daT _)).dp, reT.i, reT.s, reT.n, reT.dp, reT.l, ?_⟩
      refine ⟨rfl, _, rfl, if_f (by rw [decide_eq_true rfl]; rfl) ?_⟩
      have sl := s910.trans (s7.trans (s8.trans s11))
      exact ⟨_, rfl, ((eN.trans e3).trans e0').trans (e6.trans (LamX.ExtN.of sl)), T6.ext sl⟩
    · rintro σ H2 ⟨v, rfl, eN, tb⟩
      have e0 : LamX.ExtN HT H2 := (LamX.ExtN.of fF).trans eN
      have m1 : 1 ≤ ss.length := List.length_pos_iff.mpr hne
      have hp2 : PenOk (n + 2) H2 p c ns := pen_extN e0 hpT
      refine ⟨_, rfl, l1 (by simp), fun r1 k1 => ⟨_, rfl, _, _, rfl, rfl, r1, _, _, rfl, rfl, upd_same, by omega, by omega, l1 (by simp; omega), fun q1 j1 => ⟨l1 (by simp), fun r2 k2 => ?_⟩⟩⟩
      refine ⟨_, rfl, _, _, rfl, rfl, r2, _, _, rfl, rfl, upd_same, by omega, by omega, l1 (by simp; omega), fun q2 j2 => ⟨_, rfl, l1 (by simp), fun r3 k3 => ⟨_, rfl, r3, _, _, rfl, rfl, upd_same, by omega, by omega, l1 (by simp; omega), fun q3 j3 => ⟨l1 (by simp), fun r4 k4 => ?_⟩⟩⟩⟩
      refine ⟨_, rfl, repU_of upd_same (by simp) (by omega) (by omega) (by simp) fun H5 q4 s5 h5 => ⟨_, rfl, _, _, rfl, rfl, by omega, by omega, by decide +kernel, by decide +kernel, l1 (by simp), fun aP mP => ?_⟩⟩
      have fP := same_new (o := .lst [.non, .ref q1, .ref q2, .ref q3, .ref q4, .str (timesS "1" (ss.length : Int))]) mP
      have y1 := same_new (o := .lst [.int 0]) k1
      have y2 := same_new (o := .lst (List.replicate ((ss.length : Int) + 1).toNat [V.int 0]).flatten) j1
      have y3 := same_new (o := .lst [.int 1]) k2
      have y4 := same_new (o := .lst (List.replicate ((ss.length : Int) - 1).toNat [V.int 1]).flatten) j2
      have y5 := same_new (o := .lst [.int (-1)]) k3
      have y6 := same_new (o := .lst (List.replicate ((ss.length : Int)).toNat [V.int (-1)]).flatten) j3
      have y7 := same_new (o := .tup [.bl true]) k4
      have z4 := s5.trans fP
      have z3 := y7.trans z4
      have z2 := y5.trans (y6.trans z3)
      have z1 := y3.trans (y4.trans z2)
      have z0 := y1.trans (y2.trans z1)
      have flat : ∀ (m : Nat) (v : V), (List.replicate m [v]).flatten = List.replicate m v := fun m v => by
        induction m with
        | zero => rfl
        | succ m ih => rw [List.replicate_succ, List.flatten_cons, ih, List.replicate_succ]; rfl
      have t1' : ((ss.length : Int) + 1).toNat = ss.length + 1 := by omega
      have t2' : ((ss.length : Int) - 1).toNat = ss.length - 1 := by omega
      have t3' : ((ss.length : Int)).toNat = ss.length := by omega
      have p2 := (badP_list (n := ss.length) (m := ss.length + 1) (i := 0) (by omega) (.inl rfl) (by rw [upd_same (a := q1), flat, t1']) (.inl (by omega))).kp (Kp.of z1)
      have p3 := (badP_list (n := ss.length) (m := ss.length - 1) (i := 1) (by omega) (.inr (.inl rfl)) (by rw [upd_same (a := q2), flat, t2']) (.inl (by omega))).kp (Kp.of z2)
      have p4 := (badP_list (n := ss.length) (m := ss.length) (i := -1) (by omega) (.inr (.inr rfl)) (by rw [upd_same (a := q3), flat, t3']) (.inr ⟨rfl, m1⟩)).kp (Kp.of z3)
      have p5 := (badP_tup (n := ss.length) (m := ss.length) (by omega) m1 (by rw [h5, flat, t3'])).kp (Kp.of fP)
      refine ⟨p, c, aP, ns, n + 2, _, rfl, hp2.same z0, by omega, upd_same, by simp, by simp, fun HQ pw sQ hpQ hpw => ?_⟩
      have kpQ := (hp2.same z0).kp sQ
      have bpw : BadP ss.length HQ pw := by
        have hall : pw = .non ∨ pw = .ref q1 ∨ pw = .ref q2 ∨ pw = .ref q3 ∨ pw = .ref q4 ∨ pw = .str (timesS "1" (ss.length : Int)) := by simpa using hpw
        rcases hall with rfl | rfl | rfl | rfl | rfl | rfl
        · exact badP_non
        · exact p2.kp kpQ
        · exact p3.kp kpQ
        · exact p4.kp kpQ
        · exact p5.kp kpQ
        · exact badP_str hl18
      obtain ⟨dP, daP, prB, shP, reP⟩ := bpw
      have hcdQ : CodeS (He.ga K "Code") (He.ga K "Step") HQ cd as ss := ((hcdT.kt (extN_kt e0)).same z0).kt (pen_kt (hp2.same z0) sQ)
      have tbQ : LamX.Tabs [(P0, "_law_refused_right.<locals>.<lambda>")] HQ := tabs_sx (hp2.same z0) (tb.ext z0) sQ
      refine ⟨tbQ, fun H3 e3 T3 R => ⟨_, rfl, _, rfl, cd, pw, dP, as, ss, rfl, hcdQ.kt (extN_kt e3), hok, daP.kp (extN_kp e3), shP, .inr ⟨prB, fun H4 dd s4 h4 => .inr ⟨dd, pw, dP, rfl, rfl, h4, (daP.kp (extN_kp e3)).kp (Kp.of s4), reP, fun H6 s6 => ?_⟩⟩⟩⟩
      refine ⟨_, rfl, l1 (by simp), fun t9 n9 => ?_⟩
      have s69 := same_new (o := .tup [.str "row", pw]) n9
      refine ⟨.tuple [.str "row", dP], .ref t9, rfl, (Da.two upd_same (Da.str.mpr rfl) ((daP.kp (extN_kp e3)).kp (Kp.of (s4.trans (s6.trans s69))))).dp, reP.i, reP.s, reP.n, reP.dp, reP.l, ?_⟩
      refine ⟨rfl, ?_⟩
      rw [decide_eq_true rfl]
      exact k _
end
end K48

namespace K48
open PySem PySem.Spec PyProof.Rows L2
/-! ### the places of a law's run -/
def numK (m : Nat) : List Key := (List.range m).map fun i => Sum.inl ((i : Nat) : Int)
def strK : List (List Key) := [[Sum.inr "a"], [Sum.inr "b", Sum.inr "a"], [Sum.inr "x1", Sum.inr "a", Sum.inr "go"]]
def moreK : List Key := [Sum.inl 9, Sum.inr "zz", Sum.inl 8]
def keyB (k : Key) : Bool := (kd k).canLay0 && ((kd k).showable && (decide (sbd (kd k) ≤ 2000) && decide (keyD (kd k) = some k)))
def plB (ks : List Key) : Bool := !ks.isEmpty && (decide (ks.length ≤ 6) && (decide ((ks ++ moreK).Nodup) && (ks ++ moreK).all keyB))
theorem pl_all : (List.range 4).all (fun m => strK.all fun l => plB (numK m ++ l)) = true := by decide +kernel
structure PlOk (ks : List Key) : Prop where
  ne : ks ≠ []
  len : ks.length ≤ 6
  nd : (ks ++ moreK).Nodup
  key : ∀ k ∈ ks ++ moreK, KeyOk k ∧ (kd k).showable = true ∧ sbd (kd k) ≤ 2000 ∧ keyD (kd k) = some k
theorem pl_ok {m : Nat} {l : List Key} (hm : m < 4) (hl : l ∈ strK) : PlOk (numK m ++ l) := by
  have h := List.all_eq_true.mp (List.all_eq_true.mp pl_all m (List.mem_range.mpr hm)) l hl
  obtain ⟨h1, h⟩ := Bool.and_eq_true_iff.mp h
  obtain ⟨h2, h⟩ := Bool.and_eq_true_iff.mp h
  obtain ⟨h3, h4⟩ := Bool.and_eq_true_iff.mp h
  refine ⟨fun e => ?_, of_decide_eq_true h2, of_decide_eq_true h3, fun k hk => ?_⟩
  · rw [e] at h1
    cases h1
  · obtain ⟨q1, q⟩ := Bool.and_eq_true_iff.mp (List.all_eq_true.mp h4 k hk)
    obtain ⟨q2, q⟩ := Bool.and_eq_true_iff.mp q
    obtain ⟨q3, q4⟩ := Bool.and_eq_true_iff.mp q
    exact ⟨q1, q2, of_decide_eq_true q3, of_decide_eq_true q4⟩
theorem num_rg (d : Int) : rgV 0 d = (numK d.toNat).map kV := by
  unfold rgV numK
  rw [List.map_map]
  have : (d - 0).toNat = d.toNat := by omega
  rw [this]
  refine List.map_congr_left fun i _ => ?_
  simp [kV]
end K48

namespace K48
open PySem PySem.Spec PyProof.Rows L2
/-! ### pairs of places and numbers -/
abbrev PrAt (H : Hp) (x : V) (p : Key × Int) : Prop := ∃ t, x = .ref t ∧ H t = some (.tup [kV p.1, .int p.2])
theorem prs_nil {H : Hp} : PrsT H [] [] := ⟨rfl, fun i p h => by simp at h⟩
theorem prs_cons {H : Hp} {x : V} {xs : List V} {p : Key × Int} {h : Held} (hx : PrAt H x p) (r : PrsT H xs h) : PrsT H (x :: xs) (p :: h) := by
  refine ⟨by rw [List.length_cons, List.length_cons, r.1], fun i q hq => ?_⟩
  cases i with
  | zero =>
    cases hq
    obtain ⟨t, rfl, ht⟩ := hx
    exact ⟨t, rfl, ht⟩
  | succ i =>
    obtain ⟨t, h1, h2⟩ := r.2 i q (by simpa using hq)
    exact ⟨t, by simpa using h1, h2⟩
theorem prs_un {H : Hp} {x : V} {xs : List V} {h : Held} (r : PrsT H (x :: xs) h) : ∃ p g, h = p :: g ∧ PrAt H x p ∧ PrsT H xs g := by
  obtain ⟨l, f⟩ := r
  cases h with
  | nil => simp at l
  | cons p g =>
    refine ⟨p, g, rfl, ?_, by simpa using l, fun i q hq => ?_⟩
    · obtain ⟨t, h1, h2⟩ := f 0 p rfl
      cases h1
      exact ⟨t, rfl, h2⟩
    · obtain ⟨t, h1, h2⟩ := f (i + 1) q (by simpa using hq)
      exact ⟨t, by simpa using h1, h2⟩
theorem prs_perm {H : Hp} {xs ys : List V} (e : ys.Perm xs) : ∀ {h : Held}, PrsT H xs h → ∃ g : Held, g.Perm h ∧ PrsT H ys g := by
  induction e with
  | nil => exact fun {h} r => ⟨h, List.Perm.refl _, r⟩
  | cons x _ ih =>
    intro h r
    obtain ⟨p, g, rfl, hx, r'⟩ := prs_un r
    obtain ⟨g2, q1, q2⟩ := ih r'
    exact ⟨p :: g2, q1.cons p, prs_cons hx q2⟩
  | swap x y l =>
    intro h r
    obtain ⟨p, g, rfl, hx, r'⟩ := prs_un r
    obtain ⟨p2, g2, rfl, hx2, r2⟩ := prs_un r'
    exact ⟨p2 :: p :: g2, List.Perm.swap p p2 g2, prs_cons hx2 (prs_cons hx r2)⟩
  | trans _ _ ih1 ih2 =>
    intro h r
    obtain ⟨g, q1, q2⟩ := ih2 r
    obtain ⟨g2, q3, q4⟩ := ih1 q2
    exact ⟨g2, q3.trans q1, q4⟩
theorem prs_drop {H : Hp} {xs : List V} {h : Held} (n : Nat) (r : PrsT H xs h) : PrsT H (xs.drop n) (h.drop n) := by
  refine ⟨by rw [List.length_drop, List.length_drop, r.1], fun i q hq => ?_⟩
  rw [List.getElem?_drop] at hq ⊢
  exact r.2 _ q hq
theorem prs_app {H : Hp} : ∀ {xs ys : List V} {h g : Held}, PrsT H xs h → PrsT H ys g → PrsT H (xs ++ ys) (h ++ g)
  | [], ys, h, g, r, r2 => by
    have : h = [] := List.length_eq_zero_iff.mp r.1.symm
    rw [this]
    exact r2
  | x :: xs, ys, h, g, r, r2 => by
    obtain ⟨p, h', rfl, hx, r'⟩ := prs_un r
    exact prs_cons hx (prs_app r' r2)
theorem prs_of {H : Hp} {B : Nat} : ∀ {ks : List Key} {acc : List V}, acc.length = ks.length → (∀ (i : Nat) k v, ks[i]? = some k → acc[i]? = some v → ∃ (j : Int) (t : Addr), v = .ref t ∧ H t = some (.tup [kV k, .int j]) ∧ j.natAbs ≤ B) →
    ∃ h : Held, h.map (·.1) = ks ∧ PrsT H acc h ∧ small B h
  | [], [], _, _ => ⟨[], rfl, prs_nil, fun p hp => by simp at hp⟩
  | k :: ks, v :: acc, hl, f => by
    obtain ⟨j, t, rfl, ht, hj⟩ := f 0 k v rfl rfl
    obtain ⟨h, h1, h2, h3⟩ := prs_of (ks := ks) (acc := acc) (by simpa using hl) fun i k' v' e1 e2 => f (i + 1) k' v' (by simpa using e1) (by simpa using e2)
    refine ⟨(k, j) :: h, by rw [List.map_cons, h1], prs_cons ⟨t, rfl, ht⟩ h2, fun p hp => ?_⟩
    rcases List.mem_cons.mp hp with rfl | hp
    · exact hj
    · exact h3 p hp
  | [], _ :: _, hl, _ => by simp at hl
  | _ :: _, [], hl, _ => by simp at hl
/-- rows of pairs as data -/
theorem rows_held {H : Hp} : ∀ {acc : List V} {h : Held}, acc.length = h.length → (∀ (i : Nat) v p, acc[i]? = some v → h[i]? = some p → ∃ t, v = .ref t ∧ RowAt H t [kV p.1, .int p.2]) → (∀ p ∈ h, keyD (kd p.1) = some p.1) →
    ∃ es, DaL H es acc ∧ heldAll es = some h ∧ es.length = h.length
  | [], [], _, _, _ => ⟨[], DaL.nil.mpr rfl, rfl, rfl⟩
  | v :: acc, p :: h, hl, f, hk => by
    obtain ⟨t, rfl, ht⟩ := f 0 v p rfl rfl
    obtain ⟨es, q1, q2, q3⟩ := rows_held (acc := acc) (h := h) (by simpa using hl) (fun i v' p' e1 e2 => f (i + 1) v' p' (by simpa using e1) (by simpa using e2)) fun q hq => hk q (List.mem_cons_of_mem _ hq)
    have k1 := hk p (List.mem_cons_self ..)
    have row : DaL H [kd p.1, .int p.2] [kV p.1, .int p.2] := DaL.cons.mpr ⟨_, _, rfl, da_key H p.1, DaL.cons.mpr ⟨_, _, rfl, Da.int.mpr rfl, DaL.nil.mpr rfl⟩⟩
    obtain ⟨d, hd, hda⟩ := row_data ht row
    have hp : heldPair d = some p := by
      have er : rowD d = some [kd p.1, .int p.2] := by rcases hd with rfl | rfl <;> rfl
      unfold heldPair
      rw [er]
      dsimp only
      rw [k1]
      rfl
    refine ⟨d :: es, DaL.cons.mpr ⟨_, _, rfl, hda, q1⟩, ?_, by rw [List.length_cons, List.length_cons, q3]⟩
    rw [heldAll, hp, q2]
  | [], _ :: _, hl, _, _ => by simp at hl
  | _ :: _, [], hl, _, _ => by simp at hl
def prD (p : Key × Int) : PyData := .tuple [kd p.1, .int p.2]
theorem prs_da {H : Hp} : ∀ {xs : List V} {h : Held}, PrsT H xs h → DaL H (h.map prD) xs
  | [], h, r => by
    have : h = [] := List.length_eq_zero_iff.mp r.1.symm
    rw [this]
    exact DaL.nil.mpr rfl
  | x :: xs, h, r => by
    obtain ⟨p, g, rfl, ⟨t, rfl, ht⟩, r'⟩ := prs_un r
    exact DaL.cons.mpr ⟨_, _, rfl, Da.two ht (da_key H p.1) (Da.int.mpr rfl), prs_da r'⟩
theorem prD_shaped {h : Held} (hk : ∀ p ∈ h, KeyOk p.1) : SeqAt.shaped (.list (h.map prD)) = true := by
  refine Bool.and_eq_true_iff.mpr ⟨?_, decide_eq_true ?_⟩
  · show PyData.canLayAll0 (h.map prD) = true
    refine layAll_of fun d hd => ?_
    obtain ⟨p, hp, rfl⟩ := List.mem_map.mp hd
    have h1 : (kd p.1).canLay0 = true := hk p hp
    show ((kd p.1).canLay0 && (true && true)) = true
    rw [h1]
    rfl
  · have : PyData.depthAll (h.map prD) ≤ 3 := depthAll_le _ fun d hd => by
      obtain ⟨p, _, rfl⟩ := List.mem_map.mp hd
      have := dp_kd p.1
      simp only [prD, PyData.depth, PyData.depthAll]
      omega
    simp only [PyData.depth]
    omega
theorem prD_nd (h : Held) : (PyData.list (h.map prD)).hasDict = false := by
  show PyData.hasDictAll (h.map prD) = false
  refine hasDictAll_iff _ fun d hd => ?_
  obtain ⟨p, _, rfl⟩ := List.mem_map.mp hd
  have := nd_kd p.1
  simp [prD, PyData.hasDict, PyData.hasDictAll, this]
theorem intsD_shaped (l : List Int) : SeqAt.shaped (.list (l.map PyData.int)) = true := by
  refine Bool.and_eq_true_iff.mpr ⟨?_, decide_eq_true ?_⟩
  · show PyData.canLayAll0 (l.map PyData.int) = true
    refine layAll_of fun d hd => ?_
    obtain ⟨p, hp, rfl⟩ := List.mem_map.mp hd
    rfl
  · have : PyData.depthAll (l.map PyData.int) ≤ 1 := depthAll_le _ fun d hd => by
      obtain ⟨p, _, rfl⟩ := List.mem_map.mp hd
      simp [PyData.depth]
    simp only [PyData.depth]
    omega
theorem intsD_nd (l : List Int) : (PyData.list (l.map PyData.int)).hasDict = false := by
  show PyData.hasDictAll (l.map PyData.int) = false
  refine hasDictAll_iff _ fun d hd => ?_
  obtain ⟨p, _, rfl⟩ := List.mem_map.mp hd
  rfl
theorem ints_da {H : Hp} : ∀ l : List Int, DaL H (l.map PyData.int) (l.map V.int)
  | [] => DaL.nil.mpr rfl
  | i :: l => DaL.cons.mpr ⟨_, _, rfl, Da.int.mpr rfl, ints_da l⟩
theorem ints_of {p : Int → Prop} : ∀ {acc : List V}, (∀ v ∈ acc, ∃ j, v = .int j ∧ p j) → ∃ l : List Int, acc = l.map V.int ∧ ∀ j ∈ l, p j
  | [], _ => ⟨[], rfl, fun j h => by simp at h⟩
  | v :: acc, f => by
    obtain ⟨j, rfl, hj⟩ := f v (List.mem_cons_self ..)
    obtain ⟨l, rfl, hl⟩ := ints_of fun v hv => f v (List.mem_cons_of_mem _ hv)
    refine ⟨j :: l, rfl, fun i hi => ?_⟩
    rcases List.mem_cons.mp hi with rfl | hi
    · exact hj
    · exact hl i hi
/-! ### a run from drawn numbers -/
theorem big_few : 1000 ^ 40 * 10 ^ 60 < 2 ^ 1920 := by decide +kernel
theorem run_ok {ks : List Key} (pl : PlOk ks) {ss : List Sp1} (hs : ∀ s ∈ ss, StepIn ks s) {h : Held} (s : small (10 ^ 60) h) (k : keysIn (ks ++ moreK) h) (n : (h.map (·.1)).Nodup) {t : Nat} (ht : t ≤ 40) : RunOk (drive ss t (run0 h)) := by
  have r0 : RunIn (ks ++ moreK) (10 ^ 60) (run0 h) := ⟨s, k, n, Nat.zero_le _, Nat.zero_le _, Nat.zero_le _, fun i e => by cases e⟩
  have r1 := drive_in (fun k hk => List.mem_append_left _ hk) hs t (10 ^ 60) _ (by decide +kernel) r0
  have b : 1000 ^ t * 10 ^ 60 ≤ 1000 ^ 40 * 10 ^ 60 := Nat.mul_le_mul_right _ (Nat.pow_le_pow_right (by decide) ht)
  have r2 := run_mono r1 b
  have lt := big_few
  generalize 1000 ^ 40 * 10 ^ 60 = B at r2 lt
  have sm : ∀ i : Int, i.natAbs ≤ B → Sm i := fun i hi => sm_of (Nat.lt_of_le_of_lt hi lt)
  have few := keys_few r2.n r2.k
  have pll := pl.len
  rw [List.length_append] at few
  refine ⟨?_, fun p hp => sm _ (r2.s p hp), fun p hp => ⟨(pl.key _ (r2.k p hp)).2.1, (pl.key _ (r2.k p hp)).2.2.1⟩, sm _ r2.p, sm _ r2.t, sm _ r2.c, fun i e => sm _ (r2.v i e)⟩
  have : moreK.length = 3 := rfl
  omega
/-- what a lap starts from -/
structure LapOk (ks : List Key) (h : Held) : Prop where
  s : small (10 ^ 60) h
  k : keysIn (ks ++ moreK) h
  n : (h.map (·.1)).Nodup
  l : h.length ≤ 10
  d : ∀ p ∈ h, keyD (kd p.1) = some p.1
  o : ∀ p ∈ h, KeyOk p.1
theorem lap_ok {ks : List Key} (pl : PlOk ks) {h0 h1 g : Held} (e : h0.map (·.1) = ks) (s : small (10 ^ 60) h0) (pm : h1.Perm h0) (sg : (g.map (·.1)).Sublist moreK) (s2 : small (10 ^ 60) g) (i : Nat) : LapOk ks (h1.drop i ++ g) := by
  have pk : (h1.map (·.1)).Perm ks := by
    rw [← e]
    exact pm.map _
  have kin : keysIn (ks ++ moreK) (h1.drop i ++ g) := fun p hp => by
    rcases List.mem_append.mp hp with hp | hp
    · exact List.mem_append_left _ (pk.mem_iff.mp (List.mem_map.mpr ⟨p, List.mem_of_mem_drop hp, rfl⟩))
    · exact List.mem_append_right _ (sg.subset (List.mem_map.mpr ⟨p, hp, rfl⟩))
  have nd : ((h1.drop i ++ g).map (·.1)).Nodup := by
    have n1 : (h1.map (·.1) ++ moreK).Nodup := (pk.append_right moreK).nodup_iff.mpr pl.nd
    refine List.Nodup.sublist ?_ n1
    rw [List.map_append]
    exact List.Sublist.append ((List.drop_sublist i h1).map _) sg
  have few := keys_few nd kin
  have pll := pl.len
  have m3 : (ks ++ moreK).length = ks.length + 3 := by
    rw [List.length_append]
    rfl
  refine ⟨fun p hp => ?_, kin, nd, by omega, fun p hp => (pl.key _ (kin p hp)).2.2.2, fun p hp => (pl.key _ (kin p hp)).1⟩
  rcases List.mem_append.mp hp with hp | hp
  · exact s p (pm.mem_iff.mp (List.mem_of_mem_drop hp))
  · exact s2 p hp
theorem cut_drop {xs : List V} {i : Int} (h : 0 ≤ i) : cutV xs (some i) none = xs.drop i.toNat := by
  have e1 : HT.sIx xs.length 0 (some i) = min i.toNat xs.length := by
    show (if i < 0 then (i + (xs.length : Int)).toNat else min i.toNat xs.length) = _
    rw [if_neg (by omega)]
  have e2 : HT.sIx xs.length xs.length none = xs.length := rfl
  unfold cutV
  rw [e1, e2]
  have e3 : xs.drop (min i.toNat xs.length) = xs.drop i.toNat := by
    by_cases c : i.toNat ≤ xs.length
    · rw [Nat.min_eq_left c]
    · rw [Nat.min_eq_right (by omega), List.drop_length, List.drop_eq_nil_of_le (by omega)]
  rw [e3]
  exact List.take_of_length_le (by rw [List.length_drop]; omega)
/-! ### [tuple(x) for x in rows] -/
def rTupOf (K : PySem.W.Frag) : List V → Hp → VK → Prop := fun xs H Q => ∃ p ys, xs = [V.ref p] ∧ ((SqL K H p ys ∧ ∀ l, H l = none → Q (.ref l) (upd H l (.tup ys))) ∨ (SqT K H p ys ∧ Q (.ref p) H))
theorem call_tupOf {X : Cx} : CallR X (.type "tuple") (rTupOf X.K) := call_tuple_of
section
variable {K : PySem.W.Frag}
theorem tlc_tups {te0 : TE} {Qv : VK} {j : Nat} {σ : L2.St} {H1 : Hp} {b : Addr} {acc : List V} {h : Held} (h0 : ∀ Q : VK, Q (.ref b) H1 → te0 σ H1 Q) (hj : j < σ.length) (hr : RowAt H1 b acc) (hl : acc.length = h.length) (hlen : acc.length ≤ 1000)
    (hrow : ∀ (i : Nat) v p, acc[i]? = some v → h[i]? = some p → ∃ t, v = .ref t ∧ RowAt H1 t [kV p.1, .int p.2]) (hd : ∀ H D ys, Same H1 H → H D = some (.lst ys) → PrsT H ys h → Qv (.ref D) H) :
    tLc (fun σ H R => iList K te0 σ H R ∨ iTup K te0 σ H R) (gName j) tYes (tCB (rTupOf K) (tCons (tVar j) tNil)) [j] σ H1 Qv := by
  have nl : ∀ {H : Hp} {t D : Addr} {xs ys : List V}, H t = some (.tup xs) → H D = some (.lst ys) → t ≠ D := fun h1 h2 => ne_of h1 h2 (by intro z; cases z)
  have body : ∀ (D : Addr), H1 D = none → ∀ (i : Nat) (x : V) (H : Hp), acc[i]? = some x → (∃ acc, H D = some (.lst acc)) → Sx (fun _ => False) H1 H → True → ∀ Q : VK, (∀ y H4, Sx (fun _ => False) H H4 → True → (∀ p, h[i]? = some p → PrAt (off H4 D) y p) → Q y H4) →
      tCB (rTupOf K) (tCons (tVar j) tNil) ((wipe σ [j]).set j (some x)) H Q := by
    intro D nD i x H hi hacc s1 _ Q k2
    have hil : i < h.length := by
      rw [← hl]
      exact (List.getElem?_eq_some_iff.mp hi).1
    obtain ⟨t, rfl, ht⟩ := hrow i x _ hi (List.getElem?_eq_getElem hil)
    have jl : j < (wipe σ [j]).length := by
      show j < (σ.set j none).length
      rw [List.length_set]
      exact hj
    obtain ⟨ac, hD⟩ := hacc
    refine ⟨.ref t, by rw [List.getElem?_set_self jl], t, [kV h[i].1, .int h[i].2], rfl, ?_⟩
    rcases ht with ht | ht
    · refine .inl ⟨SqL.of (s1.same _ _ ht), fun l nl' => k2 _ _ (Sx.ofSame (same_new nl')) True.intro fun p hp => ⟨l, rfl, ?_⟩⟩
      rw [List.getElem?_eq_getElem hil] at hp
      cases hp
      rw [off_ne (ne_of_none hD nl').symm]
      exact upd_same
    · have ht2 := s1.same _ _ ht
      refine .inr ⟨SqT.of ht2, k2 _ _ (Sx.refl _ _) True.intro fun p hp => ⟨t, rfl, ?_⟩⟩
      rw [List.getElem?_eq_getElem hil] at hp
      cases hp
      rw [off_ne (nl ht2 hD)]
      exact ht2
  have fin : ∀ (D : Addr), H1 D = none → ∀ H ac, Sx (fun _ => False) H1 H → True → H D = some (.lst ac) → ac.length = acc.length → (∀ (k : Nat) (x v : V), acc[k]? = some x → ac[k]? = some v → ∀ p, h[k]? = some p → PrAt (off H D) v p) → Qv (.ref D) H := by
    intro D nD H ac s1 _ hD hlc hE
    refine hd H D ac s1.same hD ⟨by omega, fun i p hp => ?_⟩
    have hil : i < h.length := (List.getElem?_eq_some_iff.mp hp).1
    have hia : i < acc.length := by omega
    have hic : i < ac.length := by omega
    obtain ⟨t, h1, h2⟩ := hE i _ _ (List.getElem?_eq_getElem hia) (List.getElem?_eq_getElem hic) p hp
    exact ⟨t, by rw [List.getElem?_eq_getElem hic, h1], off_sx (M := fun _ => False) t _ (fun z => z) h2⟩
  have st : ∀ (D : Addr) (k : Nat) (x v : V) (H H' : Hp), Sx (fun _ => False) H H' → (∀ p, h[k]? = some p → PrAt H v p) → ∀ p, h[k]? = some p → PrAt H' v p := fun D k x v H H' e q p hp => by
    obtain ⟨t, h1, h2⟩ := q p hp
    exact ⟨t, h1, e.same _ _ h2⟩
  rcases hr with hx | hx
  · exact .inl (h0 _ ⟨b, rfl, ⟨_, SqL.of hx⟩, fun D nD => lc_mapL (fun _ => False) (fun _ _ => True) (fun i _ v H => ∀ p, h[i]? = some p → PrAt H v p) (SqL.of hx) (fun z => z) nD (fun z => z) True.intro (fun _ _ _ _ => True.intro) (st D) hlen (body D nD) (fin D nD)⟩)
  · exact .inr (h0 _ ⟨b, rfl, ⟨_, SqT.of hx⟩, fun D nD => lc_mapT (fun _ => False) (fun _ _ => True) (fun i _ v H => ∀ p, h[i]? = some p → PrAt H v p) (SqT.of hx) (fun z => z) nD (fun z => z) True.intro (fun _ _ _ _ => True.intro) (st D) hlen (body D nD) (fin D nD)⟩)
end
end K48

namespace K48
open PySem PySem.Spec PyProof.Rows L2
section
variable {P : Program} {w : World} {K : PySem.W.Frag} {mg : Str → Option Value} {base : Heap}
def spLaw (P0 : Addr) (K : PySem.W.Frag) : Sp := fun vs H Q _ => ∃ (a : Addr) (ns : List Int), vs = [.ref a] ∧ SqL K H a (ns.map V.int) ∧ ns.length ≤ 63 ∧ H P0 = some (.tbl #[]) ∧ ∀ H', Q (.bl true) H'
abbrev nLW : List Str := ["_law_script", "_law_pen_here", "_law_places", "_law_steps", "_law_code", "_law_lap", "_law_begin", "_law_shown", "_law_prices", "_law_due", "_law_place", "_law_pair", "_law_step", "_law_price", "_law_many"]
theorem sc_law : FnScope nLW ["_law_script"] (defScope s_law) := ⟨rfl, rfl, rfl, by decide +kernel, rfl, by decide +kernel, by decide +kernel⟩
theorem cg_law (T : Tx K mg) (P0 : Addr) (TB : LamX.TabB base mg (He.codeOf K ("_law_refused_right", none)) P0) : Cg P w K mg base 14 "law" (spLaw P0 K) := by
  refine cgT0 T.f_law T.m_law sc_law (fun _ _ _ _ _ _ us hl => match us, hl with | [_], _ => rfl) (fun vs H Q E h => ?_) (fun A outer s H vs Q E hr hg h => ?_)
  · obtain ⟨a, ns, rfl, _⟩ := h
    rfl
  · obtain ⟨a, ns, rfl, ha, hns, hP, k⟩ := h
    have cPen := ca_pen (P := P) (w := w) (base := base) T
    have cDraw := ca_draw (P := P) (w := w) (base := base) T
    have cPick := ca_pick (P := P) (w := w) (base := base) T
    have cFar := ca_far (P := P) (w := w) (base := base) T
    have cListed := ca_listed (P := P) (w := w) (base := base) T
    have cMixed := ca_mixed (P := P) (w := w) (base := base) T
    have cSteps := ca_some_steps (P := P) (w := w) (base := base) T
    have cCode := ca_made_code (P := P) (w := w) (base := base) T
    have cStep := ca_made_step (P := P) (w := w) (base := base) T
    have cRan := cg_ran_right (P := P) (w := w) (base := base) T
    have cPieces := ca_step_pieces (P := P) (w := w) (base := base) T
    have cCount := ca_step_count (P := P) (w := w) (base := base) T
    have cCost := ca_code_cost (P := P) (w := w) (base := base) T
    have cEq := ca_equal_right (P := P) (w := w) (base := base) T
    have cRef := cg_refused (P := P) (w := w) (base := base) T P0 TB
    have u64 := hr.units
    refine ⟨_, pss_cons (ps_set (i := 1) sc_law.nd rfl (Or.inr rfl) (pe_ca cPen hr (pa_cons (pv 0) pa_nil)))
      (pss_cons (ps_set (i := 2) sc_law.nd rfl (Or.inl rfl) (pe_op op_cat (pe_listRg rfl (by rfl) T.z_list (prg_1 (by rfl) T.z_range (pe_ca cDraw hr (pa_cons (pv 1) (pa_cons pe_int pa_nil))))) (pe_ca cPick hr (pa_cons (pv 1) (pa_cons (pe_lst (pa_cons (pe_lst (pa_cons pe_str pa_nil)) (pa_cons (pe_lst (pa_cons pe_str (pa_cons pe_str pa_nil))) (pa_cons (pe_lst (pa_cons pe_str (pa_cons pe_str (pa_cons pe_str pa_nil)))) pa_nil)))) pa_nil)))))
      (pss_cons (ps_set (i := 3) sc_law.nd rfl (Or.inl rfl) (pe_ca cSteps hr (pa_cons (pv 1) (pa_cons (pv 2) pa_nil))))
      (pss_cons (ps_set (i := 4) sc_law.nd rfl (Or.inl rfl) (pe_ca cCode hr (pa_cons (pv 1) (pa_cons (pv 3) pa_nil))))
      (pss_cons (ps_for PassesOwn.never rfl (pi_range1 (by rfl) T.z_range (pa_cons pe_int pa_nil)) (pg_name (i := 5) sc_law.nd rfl (Or.inl rfl))
        (pss_cons (ps_setLc (i := 6) (own := [("_law_place", 10)]) (g := gName 10) (te := tTup (tCons (tVar 10) (tCons (tCall (spPick K) [] E0 (tCons (tVar 1) (tCons (tLst (tCons (tOp (rI0 fun i j => .int (i - j)) (tCall (spDraw) [] E0 (tCons (tVar 1) (tCons (tC (.int 9)) tNil))) (tC (.int 4))) (tCons (tCall spFar [] E0 (tCons (tVar 1) tNil)) tNil))) tNil))) tNil))) (tt := tYes) rfl sc_law.nd rfl rfl (sw_true rfl rfl rfl (by decide +kernel)) (pi_list (pv 2)) (blkOk_by (N := nLW) (sc := defScope s_law) (by decide +kernel))
            (fun _ _ _ _ _ => pg_name (i := 10) sc_law.nd rfl (Or.inl rfl)) (fun _ _ _ _ _ => pts_nil) (fun _ _ _ _ _ => pe_tup (pa_cons (pv 10) (pa_cons (pe_ca cPick hr (pa_cons (pv 1) (pa_cons (pe_lst (pa_cons (pe_op op_sub (pe_ca cDraw hr (pa_cons (pv 1) (pa_cons pe_int pa_nil))) pe_int) (pa_cons (pe_ca cFar hr (pa_cons (pv 1) pa_nil)) pa_nil))) pa_nil))) pa_nil))))
        (pss_cons (ps_set (i := 6) sc_law.nd rfl (Or.inl rfl) (pe_op op_cat (pe_slice sl_list (pe_ca cMixed hr (pa_cons (pv 1) (pa_cons (pv 6) pa_nil))) (po_some (pe_ca cDraw hr (pa_cons (pv 1) (pa_cons pe_int pa_nil)))) po_none) (pe_ca cPick hr (pa_cons (pv 1) (pa_cons (pe_lst (pa_cons (pe_lst pa_nil) (pa_cons (pe_lst (pa_cons (pe_tup (pa_cons pe_int (pa_cons pe_int pa_nil))) pa_nil)) (pa_cons (pe_lst (pa_cons (pe_tup (pa_cons pe_str (pa_cons pe_int pa_nil))) (pa_cons (pe_tup (pa_cons pe_int (pa_cons (pe_un un_neg pe_int) pa_nil))) pa_nil))) pa_nil)))) pa_nil)))))
        (pss_cons (ps_set (i := 7) sc_law.nd rfl (Or.inl rfl) (pe_ca cListed hr (pa_cons (pv 1) (pa_cons (pe_lc (own := [("_law_pair", 11)]) (g := gName 11) (te := tCall (spListed K) [] E0 (tCons (tVar 1) (tCons (tVar 11) tNil))) (tt := tYes) rfl sc_law.nd (pi_list (pv 6)) (blkOk_by (N := nLW) (sc := defScope s_law) (by decide +kernel))
            (fun _ _ _ _ _ => pg_name (i := 11) sc_law.nd rfl (Or.inl rfl)) (fun _ _ _ _ _ => pts_nil) (fun _ _ _ _ _ => pe_ca cListed hr (pa_cons (pv 1) (pa_cons (pv 11) pa_nil)))) pa_nil))))
        (pss_cons (ps_if (pt_not (pt_val (pe_cg cRan hr hg (pa_cons (pv 4) (pa_cons (pv 3) (pa_cons (pv 7) (pa_cons (pv 6) (pa_cons (pe_ca cPick hr (pa_cons (pv 1) (pa_cons (pe_lst (pa_cons pe_int (pa_cons pe_int (pa_cons pe_int (pa_cons pe_int (pa_cons (pe_ca cDraw hr (pa_cons (pv 1) (pa_cons pe_int pa_nil))) pa_nil)))))) pa_nil))) pa_nil)))))))) (pss_one ps_never) pss_nil)
        (pss_one (ps_if (pt_cmpR (op_neD u64) (pe_lc (own := [("_law_pair", 11)]) (g := gName 11) (te := tCB (rTupOf K) (tCons (tVar 11) tNil)) (tt := tYes) rfl sc_law.nd (pi_or (pi_list (pv 7)) (pi_tup (pv 7))) (blkOk_by (N := nLW) (sc := defScope s_law) (by decide +kernel))
            (fun _ _ _ _ _ => pg_name (i := 11) sc_law.nd rfl (Or.inl rfl)) (fun _ _ _ _ _ => pts_nil) (fun _ _ _ _ _ => pe_callTy call_tupOf (by rfl) T.z_tuple (by decide +kernel) (pa_cons (pv 11) pa_nil))) (pv 6) (nomark _)) (pss_one ps_never) pss_nil)))))))
      (pss_cons (ps_setLc (i := 8) (own := [("_law_step", 12)]) (g := gName 12) (te := tCall spDraw [] E0 (tCons (tVar 1) (tCons (tOp (rI CPow fun i j => .int (i ^ j.toNat)) (tC (.int 10)) (tC (.int 6))) tNil))) (tt := tYes) rfl sc_law.nd rfl rfl (sw_true rfl rfl rfl (by decide +kernel)) (pi_list (pv 3)) (blkOk_by (N := nLW) (sc := defScope s_law) (by decide +kernel))
            (fun _ _ _ _ _ => pg_name (i := 12) sc_law.nd rfl (Or.inl rfl)) (fun _ _ _ _ _ => pts_nil) (fun _ _ _ _ _ => pe_ca cDraw hr (pa_cons (pv 1) (pa_cons (pe_op op_pow pe_int pe_int) pa_nil))))
      (pss_cons (ps_setLc (i := 9) (own := [("_law_step", 12)]) (g := gName 12) (te := tCall spStepCount [] E0 (tCons (tVar 12) tNil)) (tt := tYes) rfl sc_law.nd rfl rfl (sw_true rfl rfl rfl (by decide +kernel)) (pi_list (pv 3)) (blkOk_by (N := nLW) (sc := defScope s_law) (by decide +kernel))
            (fun _ _ _ _ _ => pg_name (i := 12) sc_law.nd rfl (Or.inl rfl)) (fun _ _ _ _ _ => pts_nil) (fun _ _ _ _ _ => pe_ca cCount hr (pa_cons (pv 12) pa_nil)))
      (pss_cons (ps_if (pt_cmpR (op_neD u64) (pe_lc (own := [("_law_step", 12)]) (g := gName 12) (te := tCall (spStepPieces (He.ga K "Step")) [] E0 (tCons (tCall (spMadeStep (He.ga K "Step")) [] E0 (tCons (tVar 1) (tCons (tVar 12) tNil))) tNil)) (tt := tYes) rfl sc_law.nd (pi_list (pv 3)) (blkOk_by (N := nLW) (sc := defScope s_law) (by decide +kernel))
            (fun _ _ _ _ _ => pg_name (i := 12) sc_law.nd rfl (Or.inl rfl)) (fun _ _ _ _ _ => pts_nil) (fun _ _ _ _ _ => pe_ca cPieces hr (pa_cons (pe_ca cStep hr (pa_cons (pv 1) (pa_cons (pv 12) pa_nil))) pa_nil))) (pv 9) (nomark _)) (pss_one ps_never) pss_nil)
      (pss_cons (ps_if (pt_cmpR op_ne (pe_caG cCost hr (pa_cons (pv 4) (pa_cons (pe_ca cListed hr (pa_cons (pv 1) (pa_cons (pv 8) pa_nil))) pa_nil))) (pe_callB (cr_sum rfl) (by rfl) T.z_sum (by decide +kernel) (pa_cons
          (pe_lc (te := tOp (rI CMul fun i j => .int (i * j)) (tVar 13) (tVar 14)) (own := [("_law_price", 13), ("_law_many", 14)]) (g := gTup K 2 (gCons (gName 13) (gCons (gName 14) gNil))) (tt := tYes) rfl sc_law.nd (pi_zip (by rfl) T.z_zip (pa_cons (pv 8) (pa_cons (pv 9) pa_nil))) (blkOk_by (N := nLW) (sc := defScope s_law) (by decide +kernel))
            (fun _ _ _ _ _ => pg_tup rfl (pgs_cons (pg_name (i := 13) sc_law.nd rfl (Or.inl rfl)) (pgs_cons (pg_name (i := 14) sc_law.nd rfl (Or.inl rfl)) pgs_nil))) (fun _ _ _ _ _ => pts_nil) (fun _ _ _ _ _ => pe_op op_mul (pv 13) (pv 14))) pa_nil)) (nomark _)) (pss_one ps_never) pss_nil)
      (pss_one (ps_ret (pe_and (pe_ca cEq hr (pa_cons (pv 1) (pa_cons (pv 3) pa_nil))) (pe_one (pe_cg cRef hr hg (pa_cons (pv 1) (pa_cons (pv 4) (pa_cons (pe_callB call_len_seq (by rfl) T.z_len PySem.boot_len (pa_cons (pv 3) pa_nil)) pa_nil)))))))))))))))), ?_⟩
    have l1 : ∀ {n : Nat}, n ≤ 1000 → n ≤ sizeLine := fun {n} h => by rw [sizeLine_eq]; omega
    refine ⟨_, rfl, a, ns, rfl, ha, hns, fun H1 p c s1 hp1 => ?_⟩
    have hP1 := s1 _ _ hP
    refine ⟨_, rfl, p, c, ns, 0, 4, rfl, hp1, by omega, by omega, by omega, fun H2 d2 s2 hp2 d20 d21 => ⟨_, rfl, .of_le (by omega) (by omega) (by omega) (by omega), ?_⟩⟩
    rw [num_rg]
    refine fun pt npt => ?_
    have hn2 := same_new (o := .lst ((numK d2.toNat).map kV)) npt
    refine ⟨_, rfl, l1 (by simp), fun a1 n1 => ⟨l1 (by simp), fun a2 n2 => ⟨l1 (by simp), fun a3 n3 => ⟨l1 (by simp), fun aL nL => ?_⟩⟩⟩⟩
    have e1 := same_new (o := .lst [.str "a"]) n1
    have e2 := same_new (o := .lst [.str "b", .str "a"]) n2
    have e3 := same_new (o := .lst [.str "x1", .str "a", .str "go"]) n3
    have e4 := same_new (o := .lst [.ref a1, .ref a2, .ref a3]) nL
    have eA := hn2.trans (e1.trans (e2.trans (e3.trans e4)))
    refine ⟨p, c, aL, ns, 0 + 1, _, rfl, hp2.same eA, by omega, upd_same, by simp, by simp, fun H3 v s3 hp3 hv => ?_⟩
    have hpA := hp2.same eA
    obtain ⟨l, b, hl, rfl, hb⟩ : ∃ l b, l ∈ strK ∧ v = .ref b ∧ H3 b = some (.lst (l.map kV)) := by
      have hall : v = .ref a1 ∨ v = .ref a2 ∨ v = .ref a3 := by simpa using hv
      rcases hall with rfl | rfl | rfl
      · exact ⟨_, a1, .head _, rfl, hpA.lk s3 ((e2.trans (e3.trans e4)) _ _ upd_same)⟩
      · exact ⟨_, a2, .tail _ (.head _), rfl, hpA.lk s3 ((e3.trans e4) _ _ upd_same)⟩
      · exact ⟨_, a3, .tail _ (.tail _ (.head _)), rfl, hpA.lk s3 (e4 _ _ upd_same)⟩
    have pl := pl_ok (m := d2.toNat) (by omega) hl
    have hpt3 := hpA.lk s3 ((e1.trans (e2.trans (e3.trans e4))) _ _ (upd_same (H := H2) (a := pt) (o := .lst ((numK d2.toNat).map kV))))
    refine ⟨pt, b, _, _, rfl, rfl, hpt3, hb, l1 ?_, fun ap nap => ?_⟩
    · have := pl.len
      rw [List.length_append] at this
      rw [List.length_map, List.length_map]
      omega
    rw [← List.map_append]
    generalize numK d2.toNat ++ l = ks at pl ⊢
    have hap := same_new (o := .lst (ks.map kV)) nap
    have sx4 : Sx (· = p) H1 (upd H3 ap (.lst (ks.map kV))) := s2.trans ((Sx.ofSame eA).trans (s3.trans (Sx.ofSame hap)))
    have hp4 : PenOk 2 (upd H3 ap (.lst (ks.map kV))) p c ns := hp3.same hap
    have hks : (upd H3 ap (.lst (ks.map kV))) ap = some (.lst (ks.map kV)) := upd_same
    generalize upd H3 ap (.lst (ks.map kV)) = H4 at sx4 hp4 hks ⊢
    refine ⟨_, rfl, _, rfl, p, c, ap, ns, 2, ks, rfl, hp4, by omega, hks, pl.ne, by have := pl.len; omega, fun q hq => (pl.key q (List.mem_append_left _ hq)).1, fun H5 f xs ss s5 hp5 hf hx hin hne hl => ?_⟩
    have hok : StepsOk ss := ⟨by omega, fun s hs => (hin s hs).ok⟩
    refine ⟨_, rfl, _, rfl, p, c, f, ns, 2 + 800, xs, ss, rfl, hp5, by omega, hf, hx, hok, fun H6 cd as s6 hp6 hcd => ?_⟩
    have hks6 := hp4.lk (s5.trans s6) hks
    have hf6 := hp5.lk s6 hf
    have hx6 := hx.kp (hp5.kp s6)
    have sx6 : Sx (· = p) H1 H6 := sx4.trans (s5.trans s6)
    have hP6 : H6 P0 = some (.tbl #[]) := by
      obtain ⟨kvs, hpd⟩ := hp1.pd
      exact sx6 _ _ (fun z => by rw [show P0 = p from z, hpd] at hP1; cases hP1) hP1
    have nko : 2 + 800 + 102 * ss.length + 1 ≤ 2700 := by omega
    generalize 2 + 800 + 102 * ss.length + 1 = n6 at hp6 nko
    clear sx4 s5 s6 hp4 hp5 hks hf hx hp1 hp2 hp3 hpA s3 s1 s2 hv
    clear eA e1 e2 e3 e4 hn2 hpt3 hap npt n1 n2 n3 nL nap hb
    refine ⟨3, rfl, by decide, by decide, ?_⟩
    refine for_range (n := 3) (fun i σ H7 => ∃ v5 v6 v7, σ = [some (.ref a), some (.ref p), some (.ref ap), some (.ref f), some (.ref cd), v5, v6, v7, none, none, none, none, none, none, none] ∧ Sx (· = p) H6 H7 ∧ PenOk (n6 + 200 * i) H7 p c ns)
      ⟨none, none, none, rfl, Sx.refl _ _, hp6⟩ ?_ ?_
    · rintro i σ H7 hi ⟨v5, v6, v7, rfl, s7, hp7⟩
      have hi3 : i < 3 := hi
      generalize hm7 : n6 + 200 * i = m7 at hp7
      have hks7 := hp6.lk s7 hks6
      -- what places have
      refine ⟨_, rfl, ap, rfl, ⟨_, SqL.of hks7⟩, fun D nD => ?_⟩
      have pD : p ≠ D := fun e => hp7.pn (by rw [e]; exact nD)
      have cD : c ≠ D := fun e => hp7.cn (by rw [e]; exact nD)
      obtain ⟨kvs7, hp77⟩ := hp7.pd
      have apP : ap ≠ p := ne_of hks7 hp77 (by intro z; cases z)
      have lks := pl.len
      refine lc_mapL (K := K) (a := ap) (xs := ks.map kV) (· = p) (fun j H8 => PenOk (m7 + 15 * j) H8 p c ns) (fun j x v H8 => ∃ (u : Int) (t : Addr), v = .ref t ∧ off H8 p t = some (.tup [x, .int u]) ∧ u.natAbs ≤ 10 ^ 60) (SqL.of hks7) apP nD (fun e => pD e.symm) hp7 (fun j H2 o h => h.upd pD cD)
        (fun j _ v H8 H9 e ⟨u, t, q1, q2, q3⟩ => ⟨u, t, q1, off_off_sx e _ _ q2, q3⟩) (by rw [List.length_map]; omega) ?_ ?_
      · intro j x H8 hj ⟨ac, hacc⟩ e8 hp8 Q2 k2
        have hjl : j < ks.length := by
          have := (List.getElem?_eq_some_iff.mp hj).1
          rwa [List.length_map] at this
        refine ⟨_, rfl, _, rfl, _, rfl, p, c, ns, m7 + 15 * j, 9, rfl, hp8, by omega, by omega, by omega, fun H9 u1 s9 hp9 u10 u11 => ⟨_, _, rfl, rfl, _, rfl, p, c, ns, m7 + 15 * j + 1, rfl, hp9, by omega, fun H10 u2 s10 hp10 u20 u21 => ⟨l1 (by simp), fun aE nE => ?_⟩⟩⟩
        have hE := same_new (o := .lst [.int (u1 - 4), .int u2]) nE
        refine ⟨p, c, aE, ns, m7 + 15 * j + 13, _, rfl, hp10.same hE, by omega, upd_same, by simp, by simp, fun H11 v s11 hp11 hv => ⟨l1 (by simp), fun t nt => ?_⟩⟩
        obtain ⟨u, rfl, hu⟩ : ∃ u : Int, v = .int u ∧ u.natAbs ≤ 10 ^ 60 := by
          have hall : v = .int (u1 - 4) ∨ v = .int u2 := by simpa using hv
          rcases hall with rfl | rfl
          · exact ⟨_, rfl, by omega⟩
          · exact ⟨_, rfl, by omega⟩
        have hD11 := s11 _ _ (Ne.symm pD) (hE _ _ (s10 _ _ (Ne.symm pD) (s9 _ _ (Ne.symm pD) hacc)))
        obtain ⟨kvs, hpp⟩ := hp11.pd
        refine k2 _ _ (sx_new (s9.trans (s10.trans ((Sx.ofSame hE).trans s11))) nt) ((hp11.new nt).mono (by omega)) ⟨u, t, rfl, ?_, hu⟩
        rw [off_ne (ne_of_none hpp nt).symm, off_ne (ne_of_none hD11 nt).symm]
        exact upd_same
      intro H8 acc e8 hp8 hD hl8 hE
      rw [List.length_map] at hl8 hp8
      obtain ⟨h0, hk0, hr0, hs0⟩ := prs_of (H := H8) (B := 10 ^ 60) (ks := ks) (acc := acc) hl8 fun j k v h1 h2 => by
        obtain ⟨u, t, e1, e2, e3⟩ := hE j (kV k) v (by rw [List.getElem?_map, h1]; rfl) h2
        exact ⟨u, t, e1, off_sx (M := fun _ => False) t _ (fun z => z) (off_sx (M := fun _ => False) t _ (fun z => z) e2), e3⟩
      have s68 : Sx (· = p) H6 H8 := s7.trans e8
      have hp8' : PenOk (m7 + 90) H8 p c ns := hp8.mono (by omega)
      clear hE hp8
      -- mixed, cut, more
      refine ⟨_, rfl, _, rfl, p, c, D, ns, m7 + 90, acc, rfl, hp8', by omega, by omega, hD, fun H9 b9 ys s9 hp9 hb9 pm => ?_⟩
      have hp9' : PenOk (m7 + 96) H9 p c ns := hp9.mono (by omega)
      obtain ⟨h1, hpm, hr1⟩ := prs_perm pm (hr0.kp (hp8'.kp s9))
      refine ⟨_, rfl, p, c, ns, m7 + 96, 2, rfl, hp9', by omega, by omega, by omega, fun H10 ci s10 hp10 c0 c1 => ⟨_, rfl, ?_⟩⟩
      refine ⟨b9, ys, rfl, SqL.of (hp9.lk s10 hb9), fun q nq => ?_⟩
      rw [cut_drop c0]
      have sq := same_new (o := .lst (ys.drop ci.toNat)) nq
      refine ⟨_, rfl, l1 (by simp), fun g1 n1 => ⟨l1 (by simp), fun t1 k1 => ⟨l1 (by simp), fun g2 n2 => ⟨l1 (by simp), fun t2 k2 => ⟨_, rfl, l1 (by simp), fun t3 k3 => ⟨l1 (by simp), fun g3 n3 => ⟨l1 (by simp), fun gL nL => ?_⟩⟩⟩⟩⟩⟩⟩
      have y1 := same_new (o := .lst []) n1
      have y2 := same_new (o := .tup [.int 9, .int 0]) k1
      have y3 := same_new (o := .lst [.ref t1]) n2
      have y4 := same_new (o := .tup [.str "zz", .int 5]) k2
      have y5 := same_new (o := .tup [.int 8, .int (-5)]) k3
      have y6 := same_new (o := .lst [.ref t2, .ref t3]) n3
      have y7 := same_new (o := .lst [.ref g1, .ref g2, .ref g3]) nL
      have y67 := y6.trans y7
      have y57 := y5.trans y67
      have y47 := y4.trans y57
      have y37 := y3.trans y47
      have y27 := y2.trans y37
      have y17 := y1.trans y27
      have yA := sq.trans y17
      have hpA := hp10.same yA
      refine ⟨p, c, gL, ns, m7 + 97, _, rfl, hpA, by omega, upd_same, by simp, by simp, fun H11 v s11 hp11 hv => ?_⟩
      have kpA := hpA.kp s11
      obtain ⟨bl, gl, g, rfl, hbl, hrg, sg, smg, lg⟩ : ∃ (bl : Addr) (gl : List V) (g : Held), v = .ref bl ∧ H11 bl = some (.lst gl) ∧ PrsT H11 gl g ∧ (g.map (·.1)).Sublist moreK ∧ small (10 ^ 60) g ∧ gl.length ≤ 2 := by
        have hall : v = .ref g1 ∨ v = .ref g2 ∨ v = .ref g3 := by simpa using hv
        rcases hall with rfl | rfl | rfl
        · exact ⟨g1, [], [], rfl, kpA.l _ _ (y27 _ _ upd_same), prs_nil, List.nil_sublist _, fun p hp => by simp at hp, by simp⟩
        · refine ⟨g2, [.ref t1], [(.inl 9, 0)], rfl, kpA.l _ _ (y47 _ _ upd_same), prs_cons ⟨t1, rfl, kpA.t _ _ (y37 _ _ upd_same)⟩ prs_nil, .cons₂ _ (List.nil_sublist _), fun p hp => ?_, by simp⟩
          rw [List.mem_singleton.mp hp]
          exact Nat.zero_le _
        · refine ⟨g3, [.ref t2, .ref t3], [(.inr "zz", 5), (.inl 8, -5)], rfl, kpA.l _ _ (y7 _ _ upd_same), prs_cons ⟨t2, rfl, kpA.t _ _ (y57 _ _ upd_same)⟩ (prs_cons ⟨t3, rfl, kpA.t _ _ (y67 _ _ upd_same)⟩ prs_nil), .cons _ (.cons₂ _ (.cons₂ _ (List.nil_sublist _))), fun p hp => ?_, by simp⟩
          simp only [List.mem_cons, List.not_mem_nil, or_false] at hp
          rcases hp with rfl | rfl
          · show 5 ≤ 10 ^ 60
            decide +kernel
          · show 5 ≤ 10 ^ 60
            decide +kernel
      have hq11 := kpA.l _ _ (y17 _ _ (upd_same (H := H10) (a := q) (o := .lst (ys.drop ci.toNat))))
      have lys : ys.length ≤ 6 := by
        have := pm.length_eq
        omega
      refine ⟨q, bl, _, _, rfl, rfl, hq11, hbl, l1 (by rw [List.length_drop]; omega), fun B nB => ?_⟩
      have hyB := same_new (o := .lst (ys.drop ci.toNat ++ gl)) nB
      have lap := lap_ok pl hk0 hs0 hpm sg smg ci.toNat
      have prs12 : PrsT (upd H11 B (.lst (ys.drop ci.toNat ++ gl))) (ys.drop ci.toNat ++ gl) (h1.drop ci.toNat ++ g) :=
        (prs_app (prs_drop ci.toNat ((((hr1.kp (hp9'.kp s10)).kp (Kp.of yA)).kp kpA))) hrg).kp (Kp.of hyB)
      have hp12 : PenOk (m7 + 98) (upd H11 B (.lst (ys.drop ci.toNat ++ gl))) p c ns := hp11.same hyB
      have s12 : Sx (· = p) H6 (upd H11 B (.lst (ys.drop ci.toNat ++ gl))) := s68.trans (s9.trans (s10.trans ((Sx.ofSame yA).trans (s11.trans (Sx.ofSame hyB)))))
      have hB12 : (upd H11 B (.lst (ys.drop ci.toNat ++ gl))) B = some (.lst (ys.drop ci.toNat ++ gl)) := upd_same
      clear y1 y2 y3 y4 y5 y6 y7 y67 y57 y47 y37 y27 y17 yA hpA kpA hbl hrg hq11 hyB hp11 hr1 hpm sg smg hr0 hs0 hk0 hp9 hp9' hp10 hp8' s9 s10 s11 s68 hD hb9 hv sq nq n1 k1 n2 k2 k3 n3 nL e8 nD cD pD
      generalize ys.drop ci.toNat ++ gl = zs at prs12 hp12 s12 hB12 ⊢
      generalize h1.drop ci.toNat ++ g = hh at lap prs12
      generalize upd H11 B (.lst zs) = H12 at prs12 hp12 s12 hB12 ⊢
      have lzs : zs.length = hh.length := prs12.1
      have lhh := lap.l
      -- shown
      refine ⟨_, rfl, _, rfl, B, rfl, ⟨_, SqL.of hB12⟩, fun D nD => ?_⟩
      have pD : p ≠ D := fun e => hp12.pn (by rw [e]; exact nD)
      have cD : c ≠ D := fun e => hp12.cn (by rw [e]; exact nD)
      obtain ⟨kvs12, hp120⟩ := hp12.pd
      have BP : B ≠ p := ne_of hB12 hp120 (by intro z; cases z)
      refine lc_mapL (K := K) (a := B) (xs := zs) (· = p) (fun j H2 => PenOk (m7 + 98 + j) H2 p c ns) (fun j _ v H2 => ∃ q, hh[j]? = some q ∧ RowO p [kV q.1, .int q.2] v H2) (SqL.of hB12) BP nD (fun e => pD e.symm) hp12 (fun j H2 o h => h.upd pD cD)
        (fun j _ v H2 H3 e ⟨q, q1, q2⟩ => ⟨q, q1, q2.sx e⟩) (by omega) ?_ ?_
      · intro j x H13 hj ⟨ac, hacc⟩ e13 hp13 Q2 k2
        have kp13 := hp12.kp e13
        have hjl : j < hh.length := by
          rw [← lzs]
          exact (List.getElem?_eq_some_iff.mp hj).1
        obtain ⟨t, ht1, ht2⟩ := prs12.2 j _ (List.getElem?_eq_getElem hjl)
        rw [hj] at ht1
        cases ht1
        refine ⟨_, rfl, _, rfl, p, c, t, ns, m7 + 98 + j, _, rfl, hp13, by omega, .inr (kp13.t _ _ ht2), fun H14 b s14 hp14 hb => ?_⟩
        obtain ⟨kvs, hpp⟩ := hp14.pd
        exact k2 _ H14 s14 hp14 ⟨_, List.getElem?_eq_getElem hjl, rowO_of hb hpp ⟨ac, hacc⟩ ⟨ac, s14 _ _ (Ne.symm pD) hacc⟩⟩
      intro H13 acc2 e13 hp13 hD13 hl13 hE
      have hp13' : PenOk (m7 + 108) H13 p c ns := hp13.mono (by omega)
      refine ⟨p, c, D, ns, m7 + 108, acc2, rfl, hp13', by omega, .inl hD13, fun H15 bS s15 hp15 hbS => ?_⟩
      have kp15 := hp13'.kp s15
      have rows15 : ∀ (j : Nat) v q, acc2[j]? = some v → hh[j]? = some q → ∃ t, v = .ref t ∧ RowAt H15 t [kV q.1, .int q.2] := fun j v q hv hq => by
        have hj : j < zs.length := by
          rw [lzs]
          exact (List.getElem?_eq_some_iff.mp hq).1
        obtain ⟨q', e1, e2⟩ := hE j _ v (List.getElem?_eq_getElem hj) hv
        rw [hq] at e1
        cases e1
        obtain ⟨t, rfl, h3⟩ := rowO_out e2
        exact ⟨t, rfl, h3.imp (kp15.l _ _) (kp15.t _ _)⟩
      obtain ⟨es, d1, d2, d3⟩ := rows_held (by rw [hl13, lzs]) rows15 lap.d
      obtain ⟨d, hd, hda⟩ := row_data hbS.row d1
      have er : rowD d = some es := by rcases hd with rfl | rfl <;> rfl
      have s615 : Sx (· = p) H6 H15 := s12.trans (e13.trans s15)
      have prs15 := (prs12.kp (hp12.kp e13)).kp kp15
      have hB15 := hp13'.lk s15 (hp12.lk e13 hB12)
      have rS15 := hbS.row
      clear hE hp13 hp13' hbS kp15
      -- the run
      refine ⟨_, rfl, _, rfl, _, rfl, _, rfl, _, rfl, _, rfl, p, c, ns, m7 + 109, 41, rfl, hp15, by omega, by omega, by omega, fun H16 u s16 hp16 u0 u1 => ⟨l1 (by simp), fun aT nT => ?_⟩⟩
      have hT := same_new (o := .lst [.int 0, .int 1, .int 2, .int 5, .int u]) nT
      refine ⟨p, c, aT, ns, m7 + 110, _, rfl, hp16.same hT, by omega, upd_same, by simp, by simp, fun H17 v s17 hp17 hv => ?_⟩
      obtain ⟨tn, rfl, htn⟩ : ∃ n : Nat, v = .int n ∧ n ≤ 40 := by
        have hall : v = .int 0 ∨ v = .int 1 ∨ v = .int 2 ∨ v = .int 5 ∨ v = .int u := by simpa using hv
        rcases hall with rfl | rfl | rfl | rfl | rfl
        · exact ⟨0, rfl, by omega⟩
        · exact ⟨1, rfl, by omega⟩
        · exact ⟨2, rfl, by omega⟩
        · exact ⟨5, rfl, by omega⟩
        · exact ⟨u.toNat, by rw [Int.toNat_of_nonneg u0], by omega⟩
      have s157 : Sx (· = p) H15 H17 := s16.trans ((Sx.ofSame hT).trans s17)
      have s617 := s615.trans s157
      have kp157 := hp15.kp s157
      have prs17 := prs15.kp kp157
      have rows17 : ∀ (j : Nat) v q, acc2[j]? = some v → hh[j]? = some q → ∃ t, v = .ref t ∧ RowAt H17 t [kV q.1, .int q.2] := fun j v q hv hq => by
        obtain ⟨t, e1, e2⟩ := rows15 j v q hv hq
        exact ⟨t, e1, e2.imp (kp157.l _ _) (kp157.t _ _)⟩
      have rS17 : RowAt H17 bS acc2 := rS15.imp (kp157.l _ _) (kp157.t _ _)
      refine ⟨cd, f, B, .ref bS, tn, as, xs, zs, ss, hh, d, rfl, hcd.kt (pen_kt hp6 s617), hok, hp6.lk s617 hf6, hx6.kp (hp6.kp s617), hda.kp kp157, fun ds e => ?_, ⟨⟨es, er, d2⟩, lap.n⟩, hp15.lk s157 hB15, prs17, by omega, by omega, run_ok pl hin lap.s lap.k lap.n htn, fun H18 s18 => ⟨_, rfl, if_f rfl ?_⟩⟩
      · rw [er] at e
        cases e
        omega
      -- what is passed stays
      unfold tNext
      unfold tIfS tTest tOp
      dsimp only
      refine tlc_tups (K := K) (te0 := tVar 7) (j := 11) (b := bS) (acc := acc2) (h := hh) ?_ ?_ (rS17.same s18) (by rw [hl13, lzs]) (by omega) (fun j v q hv hq => ?_) fun H19 D3 ws s19 hD3 hws => ?_
      · exact fun Q q => ⟨_, rfl, q⟩
      · show 11 < 15
        omega
      · obtain ⟨t, e1, e2⟩ := rows17 j v q hv hq
        exact ⟨t, e1, e2.same s18⟩
      have s189 := s18.trans s19
      have sh := prD_shaped lap.o
      refine ⟨_, rfl, .list (hh.map prD), .list (hh.map prD), (Da.lst.mpr ⟨D3, ws, rfl, hD3, prs_da hws⟩).dp, (Da.lst.mpr ⟨B, zs, rfl, s189 _ _ (hp15.lk s157 hB15), prs_da (prs17.kp (Kp.of s189))⟩).dp, sh, sh, ?_⟩
      rw [eqv_self _ (prD_nd hh)]
      exact ⟨_, rfl, if_f rfl ⟨_, _, _, rfl, s617.trans (Sx.ofSame s189), (hp17.same s189).mono (by omega)⟩⟩
    · rintro σ H7 ⟨v5, v6, v7, rfl, s7, hp7⟩
      have hp7' : PenOk 3400 H7 p c ns := hp7.mono (by omega)
      have hf7 := hp6.lk s7 hf6
      have hx7 := hx6.kp (hp6.kp s7)
      have lx := hx7.length
      rw [List.length_map] at lx
      obtain ⟨kvs7, hp77⟩ := hp7'.pd
      have fP : f ≠ p := ne_of hf7 hp77 (by intro z; cases z)
      -- prices
      refine ⟨_, rfl, f, rfl, ⟨_, SqL.of hf7⟩, fun D nD => ?_⟩
      have pD : p ≠ D := fun e => hp7'.pn (by rw [e]; exact nD)
      have cD : c ≠ D := fun e => hp7'.cn (by rw [e]; exact nD)
      refine lc_mapL (K := K) (a := f) (xs := xs) (· = p) (fun j H2 => PenOk (3400 + j) H2 p c ns) (fun j _ v H2 => ∃ u : Int, v = .int u ∧ 0 ≤ u ∧ u < 1000000) (SqL.of hf7) fP nD (fun e => pD e.symm) hp7' (fun j H2 o h => h.upd pD cD)
        (fun j _ v H2 H3 e q => q) (by omega) ?_ ?_
      · intro j x H8 hj hacc e8 hp8 Q2 k2
        have hjl : j < xs.length := (List.getElem?_eq_some_iff.mp hj).1
        refine ⟨_, rfl, _, _, rfl, rfl, pow_c, p, c, ns, 3400 + j, 10 ^ (6 : Int).toNat, rfl, hp8, by omega, by decide, by decide, fun H9 u s9 hp9 u0 u1 => k2 _ H9 s9 hp9 ⟨u, rfl, u0, ?_⟩⟩
        have e6 : (10 : Int) ^ (6 : Int).toNat = 1000000 := by decide
        rwa [e6] at u1
      intro H8 acc e8 hp8 hD hl8 hE
      obtain ⟨ps, rfl, hps⟩ := ints_of (p := fun u => 0 ≤ u ∧ u < 1000000) (acc := acc) fun v hv => by
        obtain ⟨j, hj, e⟩ := List.mem_iff_getElem.mp hv
        exact hE j _ v (List.getElem?_eq_getElem (by omega)) (by rw [List.getElem?_eq_getElem hj, e])
      rw [List.length_map] at hl8
      have hp8' : PenOk 3420 H8 p c ns := hp8.mono (by omega)
      have hf8 := hp7'.lk e8 hf7
      have hx8 := hx7.kp (hp7'.kp e8)
      have s68 := s7.trans e8
      -- due
      refine ⟨_, rfl, f, rfl, ⟨_, SqL.of hf8⟩, fun D2 nD2 => ?_⟩
      refine lc_valsL (K := K) (a := f) (xs := xs) (ys := (ss.map Sp1.count).map V.int) (SqL.of hf8) (by rw [List.length_map, List.length_map, lx]) (by omega) nD2 ?_ ?_
      · intro j x y H9 hj hy s9 Q2 k2
        obtain ⟨d', h1, h2⟩ := (hx8.kp (Kp.of s9)).get hj
        rw [List.getElem?_map] at h1
        rw [List.getElem?_map, List.getElem?_map] at hy
        cases qz : ss[j]? with
        | none =>
          rw [qz] at h1
          cases h1
        | some z =>
          rw [qz] at h1 hy
          cases h1
          cases hy
          have zn := (hin z (List.mem_of_getElem? qz)).n
          exact ⟨wipe_back, _, rfl, x, z, rfl, h2, by omega, k2⟩
      intro H9 s9 hD2
      have hp9 : PenOk 3420 H9 p c ns := hp8'.same s9
      have hf9 := s9 _ _ hf8
      have hx9 := hx8.kp (Kp.of s9)
      have hD9 := s9 _ _ hD
      have s69 := s68.trans (Sx.ofSame s9)
      -- pieces
      refine ⟨_, rfl, f, rfl, ⟨_, SqL.of hf9⟩, fun D3 nD3 => ?_⟩
      have pD3 : p ≠ D3 := fun e => hp9.pn (by rw [e]; exact nD3)
      have cD3 : c ≠ D3 := fun e => hp9.cn (by rw [e]; exact nD3)
      refine lc_mapL (K := K) (a := f) (xs := xs) (· = p) (fun j H2 => PenOk (3420 + 102 * j) H2 p c ns) (fun j _ v H2 => ∃ z, ss[j]? = some z ∧ v = .int z.count) (SqL.of hf9) fP nD3 (fun e => pD3 e.symm) hp9 (fun j H2 o h => h.upd pD3 cD3)
        (fun j _ v H2 H3 e q => q) (by omega) ?_ ?_
      · intro j x H10 hj hacc e10 hp10 Q2 k2
        have hjl : j < xs.length := (List.getElem?_eq_some_iff.mp hj).1
        obtain ⟨d', h1, h2⟩ := (hx9.kp (hp9.kp e10)).get hj
        rw [List.getElem?_map] at h1
        cases qz : ss[j]? with
        | none =>
          rw [qz] at h1
          cases h1
        | some z =>
          rw [qz] at h1
          cases h1
          have zn := (hin z (List.mem_of_getElem? qz)).n
          exact ⟨_, rfl, _, rfl, p, c, ns, 3420 + 102 * j, x, z, rfl, hp10, by omega, h2, by omega, fun H11 b s11 hp11 hb => ⟨b, z, rfl, hb, by omega, fun H12 s12 => k2 _ H12 (s11.trans (Sx.ofSame s12)) ((hp11.same s12).mono (by omega)) ⟨z, qz, rfl⟩⟩⟩
      intro H10 acc e10 hp10 hD3 hl10 hE
      have eacc : acc = (ss.map Sp1.count).map V.int := by
        refine list_of_get (by rw [hl10, List.length_map, List.length_map, lx]) fun j v hv => ?_
        have hj : j < xs.length := by
          rw [← hl10]
          exact (List.getElem?_eq_some_iff.mp hv).1
        obtain ⟨z, h1, rfl⟩ := hE j _ v (List.getElem?_eq_getElem hj) hv
        rw [List.getElem?_map, List.getElem?_map, h1]
        rfl
      subst eacc
      have hp10' : PenOk 6000 H10 p c ns := hp10.mono (by omega)
      have hD210 := hp9.lk e10 hD2
      have hD10 := hp9.lk e10 hD9
      have s610 := s69.trans e10
      have sh := intsD_shaped (ss.map Sp1.count)
      refine ⟨_, rfl, .list ((ss.map Sp1.count).map .int), .list ((ss.map Sp1.count).map .int), (Da.lst.mpr ⟨D3, _, rfl, hD3, ints_da _⟩).dp, (Da.lst.mpr ⟨D2, _, rfl, hD210, ints_da _⟩).dp, sh, sh, ?_⟩
      rw [eqv_self _ (intsD_nd _)]
      refine ⟨_, rfl, if_f rfl ?_⟩
      -- the cost
      refine ⟨_, rfl, _, rfl, _, rfl, p, c, D, ns, 6000, _, rfl, hp10', by omega, .inl hD10, fun H11 bP s11 hp11 hbP => ?_⟩
      obtain ⟨d, hd, hda⟩ := row_data hbP.row (ints_da ps)
      have er : rowD d = some (ps.map PyData.int) := by rcases hd with rfl | rfl <;> rfl
      have s611 := s610.trans s11
      have hD11 := hp10'.lk s11 hD10
      have hD211 := hp10'.lk s11 hD210
      refine ⟨cd, .ref bP, d, as, ss, rfl, hcd.kt (pen_kt hp6 s611), hok, hda, fun ds e => ?_, .inl ⟨ps, ⟨er, by omega, fun q hq => (hps q hq).1⟩, fun q hq => by have := (hps q hq).2; omega, fun H12 s12 => ?_⟩⟩
      · rw [er] at e
        cases e
        rw [List.length_map]
        omega
      have hD12 := s12 _ _ hD11
      have hD212 := s12 _ _ hD211
      refine ⟨_, rfl, _, rfl, D, D2, _, _, rfl, SqL.of hD12, SqL.of hD212, fun D4 nD4 => ?_⟩
      refine lc_zipG (A := fun H xs => SqL K H D xs) (B := fun H ys => SqL K H D2 ys) (xs := ps.map V.int) (ys := (ss.map Sp1.count).map V.int) (zs := (List.zipWith (fun i j => i * j) ps (ss.map Sp1.count)).map V.int) (fun H2 s2 => SqL.of (s2 _ _ hD12)) (fun H2 s2 => SqL.of (s2 _ _ hD212))
        (by simp only [List.length_map]; omega) (by simp only [List.length_map, List.length_zipWith]; omega) (by rw [List.length_map]; omega) nD4 ?_ ?_
      · intro j x y z T' H2 hx hy hz s2 hT Q2 k2
        rw [List.getElem?_map] at hx hy hz
        cases qp : ps[j]? with
        | none =>
          rw [qp] at hx
          cases hx
        | some i1 =>
          cases qc : (ss.map Sp1.count)[j]? with
          | none =>
            rw [qc] at hy
            cases hy
          | some i2 =>
            rw [qp] at hx
            rw [qc] at hy
            rw [List.getElem?_zipWith, qp, qc] at hz
            cases hx
            cases hy
            cases hz
            have hb := hps i1 (List.mem_of_getElem? qp)
            refine g_two hT ⟨rfl, _, rfl, _, rfl, _, _, rfl, rfl, .inl ?_, k2 H2 (Same.refl _)⟩
            show -(2 ^ 64) < i1 ∧ i1 < 2 ^ 64
            omega
      intro H13 s13 hD4
      refine ⟨D4, _, rfl, SqL.of hD4, rfl, ?_⟩
      have ec : (List.zipWith (fun i j => i * j) ps (ss.map Sp1.count)).sum = cost ps ss := by
        rw [List.zipWith_map_right, cost_zip]
      rw [ec]
      refine ⟨_, rfl, if_f (by rw [decide_eq_true rfl]; rfl) ?_⟩
      -- the last two
      have s123 := s12.trans s13
      have hp13 : PenOk 6001 H13 p c ns := hp11.same s123
      have s613 := s611.trans (Sx.ofSame s123)
      refine ⟨_, rfl, _, rfl, p, c, f, ns, 6001, xs, ss, ks, rfl, hp13, by omega, hp6.lk s613 hf6, hx6.kp (hp6.kp s613), hin, hne, hl, fun H14 s14 hp14 => ⟨_, rfl, if_t rfl ?_⟩⟩
      have s614 := s613.trans s14
      have hP14 : H14 P0 = some (.tbl #[]) := by
        obtain ⟨kvs, hpd⟩ := hp6.pd
        exact s614 _ _ (fun z => by rw [show P0 = p from z, hpd] at hP6; cases hP6) hP6
      exact ⟨_, rfl, _, rfl, _, rfl, f, xs, rfl, .inl (SqL.of (hp6.lk s614 hf6)), p, c, cd, ns, 12001, as, ss, by rw [lx]; rfl, hp14, by omega, hcd.kt (pen_kt hp6 s614), hok, hne, hl, hP14, fun H15 => k H15⟩
end
end K48

set_option maxHeartbeats 0
namespace K48
open PySem PySem.Spec PyProof.Rows L2
def loose0 : List Str := ["PointError", "BadNumber", "BadRow", "is_int", "is_row", "check_from_0", "check_prices", "as_tuples", "operand_value", "value_of", "holds", "BEGIN", "operands_of", "Step", "Code", "Ran", "is_place", "in_order", "is_held", "held_first", "operand_now", "with_numbers"]
def loose1 : List Str := ["value_now", "holds_now", "is_gone", "do_step", "step_pieces", "Drive", "run_code", "state_after", "pieces_after", "code_cost", "_law_pen", "_law_draw", "_law_pick", "_law_far", "_law_listed", "_law_mixed", "_law_in_order", "_law_operand_now", "_law_value_now", "_law_pair_now", "_law_behind", "_law_operands_in"]
def loose2 : List Str := ["_law_step_count", "_law_ready", "_law_driven", "_law_held_row", "_law_made_step", "_law_made_code", "_law_some_machine_operand", "_law_some_machine_value", "_law_some_machine_pair", "_law_some_machine_deed", "_law_some_machine_step", "_law_some_steps", "_law_fault", "_law_ran_right", "_law_equal_right", "_law_refused_right"]
def loose : List Str := loose0 ++ (loose1 ++ loose2)
abbrev R : PySem.W.OpenRow := PySem.W.OpenLaw.row PySem.Challenge.rw_sevenpoints_k48_whole_runs_of_codes
def tf : List He.Defn := [("_law_refused_right", none)]
/-! the Hook of HeadHook4, with the table of the interpreter's own statics -/
def asY (g : Addr → Option Obj) (n : Nat) : List Addr := He.asD g n ++ [cStatics]
def obsY (n : Nat) (fa : List He.Fa) (fn : List He.DefD) (tf : List He.Defn) (ex : PySem.W.Frag → Bool) (g : Addr → Option Obj) : He.AlX := (He.obsT fa fn [] (He.frT g (asY g n)), ex (He.frT g (asY g n)) && He.tabsB g tf (He.frT g (asY g n)))
theorem saysY_of {n : Nat} {fa : List He.Fa} {fn : List He.DefD} {tf : List He.Defn} {ex : PySem.W.Frag → Bool} {w : World} {h : Heap} (e : obsY n fa fn tf ex h.get? = He.valX fn [] w) : He.SaysX fa fn [] tf ex w h (He.frT h.get? (asY h.get? n)) := by
  have e1 : He.obsT fa fn [] (He.frT h.get? (asY h.get? n)) = He.valT fn [] w := congrArg (fun z : He.AlX => z.1) e
  have e2 : (ex (He.frT h.get? (asY h.get? n)) && He.tabsB h.get? tf (He.frT h.get? (asY h.get? n))) = true := congrArg (fun z : He.AlX => z.2) e
  obtain ⟨h1, h2⟩ := Bool.and_eq_true_iff.mp e2
  have key : ∀ p ∈ tf, PySem.W.codeHdIn (He.frT h.get? (asY h.get? n)) (He.cT (He.frT h.get? (asY h.get? n)) p).1 (He.cT (He.frT h.get? (asY h.get? n)) p).2 = true ∧ ∃ o, h.get? (He.cT (He.frT h.get? (asY h.get? n)) p).2 = some o ∧ He.emptyTab o = true := fun p hp => by
    obtain ⟨h3, h4⟩ := Bool.and_eq_true_iff.mp (List.all_eq_true.mp h2 p hp)
    refine ⟨h3, ?_⟩
    cases q : h.get? (He.cT (He.frT h.get? (asY h.get? n)) p).2 with
    | none =>
      rw [q] at h4
      cases h4
    | some o =>
      rw [q] at h4
      exact ⟨o, rfl, h4⟩
  exact ⟨e1, h1, fun p hp => (key p hp).1, fun p hp => by
    obtain ⟨_, o, q, z⟩ := key p hp
    exact He.frT_none q z, fun p hp => by
    obtain ⟨_, o, q, z⟩ := key p hp
    rw [q, He.emptyTab_eq z]⟩
def hookY (n : Nat) (fa : List He.Fa) (fn : List He.DefD) (tf : List He.Defn) (ex : PySem.W.Frag → Bool) : PySem.W.Hook where
  α := He.AlX
  obs := fun s => obsY n fa fn tf ex s.heap.get?
  val := fun w => He.valX fn [] w
  says := fun w h => ∃ K : PySem.W.Frag, K.In h ∧ He.SaysX fa fn [] tf ex w h K
  of := fun _ _ e => ⟨_, He.frT_in, saysY_of e⟩
  keeps := fun _ _ _ ⟨K, hK, c⟩ k => ⟨K, PySem.W.Frag.In.keeps hK k, ⟨c.t, c.more, c.hd, c.out, fun p hp => k _ _ (c.empty p hp)⟩⟩
theorem obsY_eq {n : Nat} {fa : List He.Fa} {fn : List He.DefD} {tf : List He.Defn} {ex : PySem.W.Frag → Bool} {g : Addr → Option Obj} {s : Shared} (h : ∀ a, g a = s.heap.get? a) : obsY n fa fn tf ex g = (hookY n fa fn tf ex).obs s := by
  have e : g = s.heap.get? := funext h
  rw [e] <;> rfl
abbrev hk : PySem.W.Hook := hookY 5 fa fn tf ex
def ob (s : PySem.W.SharedT) : He.AlX := obsY 5 fa fn tf ex (HandSHeadRun.getT s)
theorem ob_eq (s : PySem.W.SharedT) : ob s = hk.obs s.abs := obsY_eq (HandSHeadRun.getT_eq s)
theorem run (w : World) : HandSHeadRun.RunEq R (PySem.W.view R.prog [66]) hk ob 3500 loose w := by
  intro os
  kernel_rfl
end K48

set_option maxHeartbeats 4000000
namespace K48
open PySem PySem.Spec PyProof.Rows L2
/-! ### the end: one table, no guard around -/
/-- where the law begins: the table at T, perhaps the script at a -/
def hs (T a : Addr) (u : Option HO) : Hp := fun b => if b = T then some (.tbl #[]) else if b = a then u else none
theorem hs_T {T a : Addr} {u : Option HO} : hs T a u T = some (.tbl #[]) := if_pos rfl
theorem hs_a {T a : Addr} {u : Option HO} (h : a ≠ T) : hs T a u a = u := by
  unfold hs
  rw [if_neg h, if_pos rfl]
theorem hs_no {T a b : Addr} {u : Option HO} (h : b ≠ T) (h2 : b ≠ a) : hs T a u b = none := by
  unfold hs
  rw [if_neg h, if_neg h2]
/-- an object that is neither the table nor a sequence -/
def Oth (o : Obj) : Prop := o.data ≠ .fields #[] ∧ ∀ vs n, o.data ≠ .seq vs n
theorem oth_dict {o : Obj} {es : Array DictEntry} {n : Nat} (h : o.data = .dict es n) : Oth o := by
  refine ⟨fun z => ?_, fun vs m z => ?_⟩ <;> (rw [h] at z; cases z)
section
variable {P : Program} {w : World} {K : PySem.W.Frag} {mg mb : Str → Option Value} {k : Nat} {fa a c T : Addr} {x : Str} {sp : Sp} {s : Shared} {vs : List Value} {ns : List Int}
theorem endG (KX : K.In s.heap) (G : s.heap.Ns mainGlobals mg) (B : s.heap.Ns builtinsNs mb) (BB : ∀ x : Str, x ≠ "__name__" → mb x = bootBuiltins x) (L : s.heap.NoLimit) (hg : s.gens = #[])
    (hT : s.heap.get? T = some { cls := .none, data := .fields #[] }) (nT : K.lookup T = none) (C : PySem.W.CodeHd s.heap c T)
    (bm : ∃ (m : Addr) (ob : Obj), mg "__builtins__" = some (.ref m) ∧ m ≠ builtinsNs ∧ s.heap.get? m = some ob ∧ ob.cls = .type "module" ∧ ob.dict = some builtinsNs ∧ ob.data = .plain)
    (ha : s.heap.get? a = some { cls := .type "list", data := .seq vs.toArray }) (hi : IntsAre vs ns) (hl : ns.length ≤ sizeLine) (hr : Room k callerA)
    (F : ∀ base : Heap, K.In base → base.Ns mainGlobals mg → LamX.TabB base mg c T → Cg P w K mg base k x sp) (hx : mg x = some (.ref fa))
    (hsp : ∀ H : Hp, H T = some (.tbl #[]) → SqL K H a (ns.map V.int) → sp [.ref a] H (fun v _ => v = .bl true) fun _ _ _ => False) :
    codeAny (model P w) callerA (.call (.ref fa) ⟨[.ref a], []⟩) (fun r s' => r = .ok (.ret (.bool true)) ∧ OldK s.heap s'.heap ∧ s'.os = s.os ∧ AllBare s'.gens) s := by
  have lv := hi.length
  have aT : a ≠ T := fun e => by
    rw [e, hT] at ha
    cases ha
  obtain ⟨u, hS, hO, hK, hZ⟩ : ∃ u : Option HO, SqL K (hs T a u) a (ns.map V.int) ∧ (∀ o, u = some o → ObjOk P w (hs T a u) s.heap a o) ∧ (u ≠ none → K.lookup a = none) ∧ ∀ o, u = some o → ∃ xs, o = .frz { cls := .type "list", data := .seq vs.toArray } (.lst xs) := by
    cases q : K.lookup a with
    | some o =>
      have e := (KX a o q).symm.trans ha
      cases e
      exact ⟨none, .inr ⟨_, vs.toArray, _, q, rfl, rfl, rfl, by rw [List.size_toArray, lv]; exact hl, by simpa using vals_ints hi⟩, fun o z => (nomatch z), fun z => absurd rfl z, fun o z => (nomatch z)⟩
    | none =>
      refine ⟨some (.frz { cls := .type "list", data := .seq vs.toArray } (.lst (ns.map V.int))), .inl (.inr ⟨_, hs_a aT⟩), fun o z => ?_, fun _ => rfl, fun o z => ⟨_, (Option.some.inj z).symm⟩⟩
      cases z
      exact ⟨ha, by rw [List.length_map]; exact hl, vs, _, vals_ints hi, ha⟩
  have ok : HOk P w (hs T a u) s.heap := fun b o hbo => by
    by_cases q1 : b = T
    · rw [q1, hs_T] at hbo
      cases hbo
      rw [q1]
      exact hT
    · by_cases q2 : b = a
      · rw [q2, hs_a aT] at hbo
        rw [q2]
        exact hO o hbo
      · rw [hs_no q1 q2] at hbo
        cases hbo
  -- what is not tracked
  have out : ∀ {b : Addr} {o : Obj}, s.heap.get? b = some o → Oth o → hs T a u b = none := fun {b o} e ⟨z1, z2⟩ => hs_no (fun q => by
    rw [q, hT] at e
    cases e
    exact z1 rfl) fun q => by
    rw [q, ha] at e
    cases e
    exact z2 _ _ rfl
  have keep : ∀ {b : Addr} {o : Obj}, s.heap.get? b = some o → Oth o → (hidT s.heap (hs T a u)).get? b = some o := fun e z => hidT_get e (out e z)
  have nsB : ∀ {b : Addr} {m : Str → Option Value}, s.heap.Ns b m → (hidT s.heap (hs T a u)).Ns b m := fun ⟨o, es, n, e, z, r⟩ => ⟨o, es, n, keep e (oth_dict z), z, r⟩
  have inB : K.In (hidT s.heap (hs T a u)) := fun b o e => hidT_get (KX b o e) (by
    by_cases q1 : b = T
    · rw [q1, nT] at e
      cases e
    · by_cases q2 : b = a
      · cases qu : u with
        | none => rw [q2, hs_a aT]
        | some o' =>
          rw [q2, hK (by rw [qu]; exact fun z => nomatch z)] at e
          cases e
      · exact hs_no q1 q2)
  have gT : mainGlobals ≠ T := fun z => by
    obtain ⟨o, es, n, e, hd, _⟩ := G
    rw [z, hT] at e
    cases e
    cases hd
  have TB : LamX.TabB (hidT s.heap (hs T a u)) mg c T := by
    refine ⟨?_, ?_, gT⟩
    · obtain ⟨o, us, file, tf, flags, tg, inF, text, tt, e1, r1, r2, r3, rest⟩ := C
      refine ⟨o, us, file, tf, flags, tg, inF, text, tt, keep e1 ⟨fun z => ?_, fun _ _ z => ?_⟩, r1, r2, r3, rest⟩
      · rw [r2] at z
        cases z
        simp at r3
      · rw [r2] at z
        cases z
    · obtain ⟨m, ob, b1, b2, b3, b4, b5, b6⟩ := bm
      have mG : m ≠ mainGlobals := fun q => by
        obtain ⟨o, es, n, e, hd, _⟩ := G
        rw [q, e] at b3
        cases b3
        rw [hd] at b6
        cases b6
      have mT : m ≠ T := fun q => by
        rw [q, hT] at b3
        cases b3
        cases b6
      exact ⟨m, ob, b1, b2, mG, mT, keep b3 ⟨fun z => (by rw [b6] at z; cases z), fun _ _ z => (by rw [b6] at z; cases z)⟩, b4, b5, b6⟩
  have M : L2.Mod K mg (hidT s.heap (hs T a u)) := by
    obtain ⟨m, l1, l2⟩ := L
    exact ⟨inB, nsB G, ⟨mb, nsB B, BB⟩, ⟨m, nsB l1, l2⟩⟩
  have e0 : Env0 P w K mg (hidT s.heap (hs T a u)) callerA [] s (hs T a u) :=
    { frames := rfl, mod := M, bs := fun b o e => of_hidT e, bsz := Nat.le_of_eq (hidT_size _ _), funs := trivial, frf := fun b z => (by cases z), hok := ok, bare := .of_eq hg }
  obtain ⟨f, fd, ps, FG, hm, _, hb⟩ := (F _ inB (nsB G) TB).ex
  cases hm.symm.trans hx
  have q := hsp _ hs_T hS
  have l1 : [Value.ref a].length = ps.length := FG.len _ _ _ _ q
  have bd := hb s [.ref a] KX (by simpa using l1)
  have go := FG.run callerA [] s (hs T a u) ⟨[.ref a], []⟩ [.ref a] [.ref a] _ _ hr rfl e0 (by simpa using bd) (.cons rfl .nil) q
  refine codeAny_mono go fun r s' h => ?_
  match r, h with
  | .error e, h => exact False.elim h
  | .ok .next, h => exact False.elim h
  | .ok .brk, h => exact False.elim h
  | .ok .cont, h => exact False.elim h
  | .ok (.ret y), h =>
    obtain ⟨v, H', h1, h2, un, ok', rv, q⟩ := h
    obtain rfl : v = .bl true := q
    obtain rfl : y = Value.bool true := rv
    obtain ⟨more, hm⟩ := un.tbls T #[] hs_T
    have tab : s'.heap.get? T = some { cls := .none, data := .fields (#[] ++ more) } := ok' T _ hm
    have rest : ∀ b o, b ≠ T → s.heap.get? b = some o → s'.heap.get? b = some o := fun b o nb e => by
      cases z : hs T a u b with
      | none => exact un.keep b o e z (fun q => by cases q) (fun q => by cases q)
      | some z' =>
        have ba : b = a := by
          by_cases q2 : b = a
          · exact q2
          · rw [hs_no nb q2] at z
            cases z
        subst ba
        rw [hs_a aT] at z
        obtain ⟨xs, rfl⟩ := hZ _ z
        have f1 := un.frzs b _ _ ((hs_a aT).trans z)
        rw [ha] at e
        cases e
        exact (ok' b _ f1).1
    refine ⟨rfl, ⟨fun b o e => ?_, fun b o e => ?_⟩, h1, h2⟩
    · by_cases q1 : b = T
      · subst q1
        obtain rfl := Option.some.inj (hT.symm.trans e)
        exact .inr (.inl ⟨(C.tab hT).isCodeTable, rfl, #[], more, rfl, tab⟩)
      · exact .inl (rest b o q1 e)
    · by_cases q1 : b = T
      · exact ⟨_, by rw [q1]; exact tab⟩
      · exact ⟨o, rest b o q1 e⟩
theorem tx_of {h : Heap} (X : K.In h) (G : h.Ns mainGlobals mg) (c : He.SaysX K48.fa fn [] tf ex w h K) : Tx K mg :=
  ⟨c.t.d, fun x q => He.glo_ok X G q, fun x q => He.free_ok X G q, fun x i q => He.int_ok X G q, c.more⟩
end
end K48
open PySem PySem.W PySem.Calls PyProof.Rows
theorem PySem.Challenge.cw_sevenpoints_k48_whole_runs_of_codes_holds : PySem.Challenge.rw_sevenpoints_k48_whole_runs_of_codes.Holds := by
  w_on; o_law
  refine HandSHeadRun.head_any (r := K48.R) (q := PySem.W.view K48.R.prog [66]) (H := K48.hk) (ob := K48.ob) (M := 3500) (loose := K48.loose) (d := HandSHeadRun.topDef K48.R.prog 66) (kwd := []) K48.ob_eq
    (by kernel_rfl) (fun s => by kernel_rfl) K48.run (by kernel_rfl) (by kernel_rfl) (by kernel_rfl) (by rfl) (by first | assumption | decide +kernel) (by decide +kernel) ⟨rfl, rfl, rfl, rfl, rfl, by decide +kernel⟩ ?hw ?hc
  case hw => w_witness2
  case hc =>
    refine Att.attach_callB (n := 63) rfl (by kernel_rfl) fun w s₀ s₁ mg mb fa o pm cd doc a vs ns G Y ho hd hcd hmg0 hobj hints hlen hbits hg => ?_
    obtain ⟨K, KX, c⟩ := Y
    have hmg : mg ("law" : PySem.Str) = some (.ref fa) := by
      have e : (HandSHeadRun.topDef K48.R.prog 66).name = ("law" : PySem.Str) := by kernel_rfl
      rw [← e]
      exact hmg0
    have tx := K48.tx_of KX G.T.g c
    exact K48.endG KX G.T.g G.T.b G.T.builtins G.T.nolimit hg (c.empty _ (.head _)) (c.out _ (.head _)) (PySem.W.codeHd_of_K KX (c.hd _ (.head _))) G.T.bmain hobj hints (Nat.le_trans hlen (by decide)) ⟨rfl, by decide, by decide⟩
      (fun base _ _ tb => K48.cg_law tx _ tb) hmg fun H hT hS => ⟨a, ns, rfl, hS, hlen, hT, fun _ => rfl⟩

