import PyProof.Rows.All
import PySem.Challenge.RW_codepick_k53_whole_a_form_more
import HandS.ForMost
import HandS.Ends
import HandS.More
import HandS.Words
import HandS.WordsExc
import HandS.Defaults
import HandS.Head0
import HandS.Head1
import HandS.Head2
import HandS.HeadEnd
import HandS.HeadHook1
import HandS.HeadHook2
import HandS.IsInst
import HandS.TupAny
import HandS.Deep
import HandS.Style
import KE.GoesMore
import KE.GoesEnum
import HandS.Walk
import KE.GoesZip
import KE.KDictKeyed
import HandS.TupLen
import HandS.DictComp
import HandS.SetKeys
import KE.SortData
import PyProof.P3In
import HandS.Sort
import HandS.Exc
section
set_option Elab.async false
set_option linter.all false
set_option maxRecDepth 100000
set_option maxHeartbeats 4000000
/-! the text by places, each def's names -/
namespace Cp
open PySem PySem.Spec PyProof.Rows L2
def topS (i : Nat) : Stmt := PySem.Challenge.pw_codepick_k53_whole_a_form_more.main.body.getD i (.Pass ⟨0, 0, 0, 0⟩)
abbrev s_is_between : Stmt := topS 15
theorem sc_is_between : FnScope ["thing", "low", "high"] ["thing", "low", "high"] (defScope s_is_between) := ⟨rfl, rfl, rfl, by decide +kernel, rfl, by decide +kernel, by decide +kernel⟩
abbrev s_is_count : Stmt := topS 16
theorem sc_is_count : FnScope ["thing"] ["thing"] (defScope s_is_count) := ⟨rfl, rfl, rfl, by decide +kernel, rfl, by decide +kernel, by decide +kernel⟩
abbrev s_is_arities : Stmt := topS 17
theorem sc_is_arities : FnScope ["thing", "arity"] ["thing"] (defScope s_is_arities) := ⟨rfl, rfl, rfl, by decide +kernel, rfl, by decide +kernel, by decide +kernel⟩
abbrev s_is_instruction : Stmt := topS 18
theorem sc_is_instruction : FnScope ["arities", "forms", "thing", "form"] ["arities", "forms", "thing"] (defScope s_is_instruction) := ⟨rfl, rfl, rfl, by decide +kernel, rfl, by decide +kernel, by decide +kernel⟩
abbrev s_is_conversion : Stmt := topS 19
theorem sc_is_conversion : FnScope ["forms", "thing"] ["forms", "thing"] (defScope s_is_conversion) := ⟨rfl, rfl, rfl, by decide +kernel, rfl, by decide +kernel, by decide +kernel⟩
abbrev s_is_machine : Stmt := topS 20
theorem sc_is_machine : FnScope ["thing", "arities", "forms", "instructions", "conversions", "one"] ["thing"] (defScope s_is_machine) := ⟨rfl, rfl, rfl, by decide +kernel, rfl, by decide +kernel, by decide +kernel⟩
abbrev s_need_machine : Stmt := topS 21
theorem sc_need_machine : FnScope ["thing"] ["thing"] (defScope s_need_machine) := ⟨rfl, rfl, rfl, by decide +kernel, rfl, by decide +kernel, by decide +kernel⟩
abbrev s_greatest_price : Stmt := topS 22
theorem sc_greatest_price : FnScope ["machine", "one"] ["machine"] (defScope s_greatest_price) := ⟨rfl, rfl, rfl, by decide +kernel, rfl, by decide +kernel, by decide +kernel⟩
abbrev s_is_node : Stmt := topS 24
theorem sc_is_node : FnScope ["arities", "thing", "before", "node"] ["arities", "thing", "before"] (defScope s_is_node) := ⟨rfl, rfl, rfl, by decide +kernel, rfl, by decide +kernel, by decide +kernel⟩
abbrev s_is_written : Stmt := topS 25
theorem sc_is_written : FnScope ["arities", "thing", "at", "node"] ["arities", "thing"] (defScope s_is_written) := ⟨rfl, rfl, rfl, by decide +kernel, rfl, by decide +kernel, by decide +kernel⟩
abbrev s_need_tree : Stmt := topS 26
theorem sc_need_tree : FnScope ["arities", "thing"] ["arities", "thing"] (defScope s_need_tree) := ⟨rfl, rfl, rfl, by decide +kernel, rfl, by decide +kernel, by decide +kernel⟩
abbrev s_less : Stmt := topS 28
theorem sc_less : FnScope ["one", "other"] ["one", "other"] (defScope s_less) := ⟨rfl, rfl, rfl, by decide +kernel, rfl, by decide +kernel, by decide +kernel⟩
abbrev s_total : Stmt := topS 29
theorem sc_total : FnScope ["some"] ["some"] (defScope s_total) := ⟨rfl, rfl, rfl, by decide +kernel, rfl, by decide +kernel, by decide +kernel⟩
abbrev s_ways_of : Stmt := topS 30
theorem sc_ways_of : FnScope ["machine", "found", "form", "first", "last", "price", "amid", "by_amid"] ["machine"] (defScope s_ways_of) := ⟨rfl, rfl, rfl, by decide +kernel, rfl, by decide +kernel, by decide +kernel⟩
abbrev s_computed : Stmt := topS 31
theorem sc_computed : FnScope ["machine", "operator", "rows", "found", "form", "its_operator", "arguments", "price", "parts", "row", "argument"] ["machine", "operator", "rows"] (defScope s_computed) := ⟨rfl, rfl, rfl, by decide +kernel, rfl, by decide +kernel, by decide +kernel⟩
abbrev s_converted : Stmt := topS 32
theorem sc_converted : FnScope ["ways", "row", "found", "first", "price", "last", "more"] ["ways", "row"] (defScope s_converted) := ⟨rfl, rfl, rfl, by decide +kernel, rfl, by decide +kernel, by decide +kernel⟩
abbrev s_joined_row : Stmt := topS 33
theorem sc_joined_row : FnScope ["machine", "ways", "operator", "rows"] ["machine", "ways", "operator", "rows"] (defScope s_joined_row) := ⟨rfl, rfl, rfl, by decide +kernel, rfl, by decide +kernel, by decide +kernel⟩
abbrev s_rows_of : Stmt := topS 34
theorem sc_rows_of : FnScope ["machine", "tree", "ways", "found", "node", "part"] ["machine", "tree"] (defScope s_rows_of) := ⟨rfl, rfl, rfl, by decide +kernel, rfl, by decide +kernel, by decide +kernel⟩
abbrev s_need_machine_and_tree : Stmt := topS 35
theorem sc_need_machine_and_tree : FnScope ["machine", "tree"] ["machine", "tree"] (defScope s_need_machine_and_tree) := ⟨rfl, rfl, rfl, by decide +kernel, rfl, by decide +kernel, by decide +kernel⟩
abbrev s_prices : Stmt := topS 36
theorem sc_prices : FnScope ["machine", "tree"] ["machine", "tree"] (defScope s_prices) := ⟨rfl, rfl, rfl, by decide +kernel, rfl, by decide +kernel, by decide +kernel⟩
abbrev s_base_of : Stmt := topS 37
theorem sc_base_of : FnScope ["row", "some", "price"] ["row"] (defScope s_base_of) := ⟨rfl, rfl, rfl, by decide +kernel, rfl, by decide +kernel, by decide +kernel⟩
abbrev s_relative_of : Stmt := topS 38
theorem sc_relative_of : FnScope ["row", "base", "price"] ["row"] (defScope s_relative_of) := ⟨rfl, rfl, rfl, by decide +kernel, rfl, by decide +kernel, by decide +kernel⟩
abbrev s_is_row : Stmt := topS 39
theorem sc_is_row : FnScope ["thing", "price"] ["thing"] (defScope s_is_row) := ⟨rfl, rfl, rfl, by decide +kernel, rfl, by decide +kernel, by decide +kernel⟩
abbrev s_relative : Stmt := topS 40
theorem sc_relative : FnScope ["row"] ["row"] (defScope s_relative) := ⟨rfl, rfl, rfl, by decide +kernel, rfl, by decide +kernel, by decide +kernel⟩
abbrev s_stepped : Stmt := topS 45
theorem sc_stepped : FnScope ["machine", "ways", "operator", "arguments"] ["machine", "ways", "operator", "arguments"] (defScope s_stepped) := ⟨rfl, rfl, rfl, by decide +kernel, rfl, by decide +kernel, by decide +kernel⟩
abbrev s_spread : Stmt := topS 46
theorem sc_spread : FnScope ["state", "some", "price"] ["state"] (defScope s_spread) := ⟨rfl, rfl, rfl, by decide +kernel, rfl, by decide +kernel, by decide +kernel⟩
abbrev s_steps_from : Stmt := topS 47
theorem sc_steps_from : FnScope ["machine", "at", "found", "operator", "arity", "other"] ["machine", "at"] (defScope s_steps_from) := ⟨rfl, rfl, rfl, by decide +kernel, rfl, by decide +kernel, by decide +kernel⟩
abbrev s_explored : Stmt := topS 48
theorem sc_explored : FnScope ["machine", "ways", "order", "known", "bound", "at", "operator", "numbers", "state", "number"] ["machine"] (defScope s_explored) := ⟨rfl, rfl, rfl, by decide +kernel, rfl, by decide +kernel, by decide +kernel⟩
abbrev s_found_states : Stmt := topS 49
theorem sc_found_states : FnScope ["machine", "order", "endless"] ["machine"] (defScope s_found_states) := ⟨rfl, rfl, rfl, by decide +kernel, rfl, by decide +kernel, by decide +kernel⟩
abbrev s_key_of : Stmt := topS 50
theorem sc_key_of : FnScope ["state", "price"] ["state"] (defScope s_key_of) := ⟨rfl, rfl, rfl, by decide +kernel, rfl, by decide +kernel, by decide +kernel⟩
abbrev s_ordered : Stmt := topS 51
theorem sc_ordered : FnScope ["some", "key", "state"] ["some"] (defScope s_ordered) := ⟨rfl, rfl, rfl, by decide +kernel, rfl, by decide +kernel, by decide +kernel⟩
abbrev s_states : Stmt := topS 52
theorem sc_states : FnScope ["machine", "state", "operator", "numbers"] ["machine"] (defScope s_states) := ⟨rfl, rfl, rfl, by decide +kernel, rfl, by decide +kernel, by decide +kernel⟩
abbrev s_few_states : Stmt := topS 55
theorem sc_few_states : FnScope ["machine", "order"] ["machine"] (defScope s_few_states) := ⟨rfl, rfl, rfl, by decide +kernel, rfl, by decide +kernel, by decide +kernel⟩
abbrev s_steps_of : Stmt := topS 56
theorem sc_steps_of : FnScope ["machine", "many", "found", "operator", "arity", "place", "number"] ["machine", "many"] (defScope s_steps_of) := ⟨rfl, rfl, rfl, by decide +kernel, rfl, by decide +kernel, by decide +kernel⟩
abbrev s_moves_of : Stmt := topS 57
theorem sc_moves_of : FnScope ["machine", "order", "ways", "found", "numbers", "operator", "place", "siblings", "row", "state", "its_operator", "its_numbers", "arguments", "later", "growth", "number", "one"] ["machine", "order"] (defScope s_moves_of) := ⟨rfl, rfl, rfl, by decide +kernel, rfl, by decide +kernel, by decide +kernel⟩
abbrev s_first_steps : Stmt := topS 58
theorem sc_first_steps : FnScope ["order", "moves", "found", "grown", "later", "number", "some", "one", "step", "row"] ["order", "moves"] (defScope s_first_steps) := ⟨rfl, rfl, rfl, by decide +kernel, rfl, by decide +kernel, by decide +kernel⟩
abbrev s_first_rest : Stmt := topS 59
theorem sc_first_rest : FnScope ["order", "moves", "firsts", "number", "growth", "at", "more"] ["order", "moves", "firsts", "number"] (defScope s_first_rest) := ⟨rfl, rfl, rfl, by decide +kernel, rfl, by decide +kernel, by decide +kernel⟩
abbrev s_marks_of : Stmt := topS 60
theorem sc_marks_of : FnScope ["order", "moves", "rests", "parts", "found", "number", "one", "mark", "goal", "row", "later", "growth", "more"] ["order", "moves", "rests", "parts"] (defScope s_marks_of) := ⟨rfl, rfl, rfl, by decide +kernel, rfl, by decide +kernel, by decide +kernel⟩
abbrev s_parts_of : Stmt := topS 61
theorem sc_parts_of : FnScope ["order", "moves", "firsts", "rests", "parts", "many", "known", "marks", "mark", "number"] ["order", "moves"] (defScope s_parts_of) := ⟨rfl, rfl, rfl, by decide +kernel, rfl, by decide +kernel, by decide +kernel⟩
abbrev s_classes : Stmt := topS 62
theorem sc_classes : FnScope ["machine", "order", "parts", "numbers", "found", "state", "number", "one", "some"] ["machine"] (defScope s_classes) := ⟨rfl, rfl, rfl, by decide +kernel, rfl, by decide +kernel, by decide +kernel⟩
abbrev s_law_cell_at : Stmt := topS 64
theorem sc_law_cell_at : FnScope ["_law_script", "_law_k"] ["_law_script", "_law_k"] (defScope s_law_cell_at) := ⟨rfl, rfl, rfl, by decide +kernel, rfl, by decide +kernel, by decide +kernel⟩
abbrev s_law_pen : Stmt := topS 65
theorem sc_law_pen : FnScope ["_law_cell"] ["_law_cell"] (defScope s_law_pen) := ⟨rfl, rfl, rfl, by decide +kernel, rfl, by decide +kernel, by decide +kernel⟩
abbrev s_law_draw : Stmt := topS 66
theorem sc_law_draw : FnScope ["_law_pen_here", "_law_many", "_law_digit", "_law_stir"] ["_law_pen_here", "_law_many"] (defScope s_law_draw) := ⟨rfl, rfl, rfl, by decide +kernel, rfl, by decide +kernel, by decide +kernel⟩
abbrev s_law_pick : Stmt := topS 67
theorem sc_law_pick : FnScope ["_law_pen_here", "_law_some"] ["_law_pen_here", "_law_some"] (defScope s_law_pick) := ⟨rfl, rfl, rfl, by decide +kernel, rfl, by decide +kernel, by decide +kernel⟩
abbrev s_law_arities : Stmt := topS 68
theorem sc_law_arities : FnScope ["_law_pen_here", "_law_some", "_law_at", "_law_turn"] ["_law_pen_here"] (defScope s_law_arities) := ⟨rfl, rfl, rfl, by decide +kernel, rfl, by decide +kernel, by decide +kernel⟩
abbrev s_law_ways : Stmt := topS 69
theorem sc_law_ways : FnScope ["_law_machine_here", "_law_found", "_law_lap", "_law_first", "_law_last", "_law_price", "_law_one"] ["_law_machine_here"] (defScope s_law_ways) := ⟨rfl, rfl, rfl, by decide +kernel, rfl, by decide +kernel, by decide +kernel⟩
abbrev s_law_row : Stmt := topS 70
theorem sc_law_row : FnScope ["_law_machine_here", "_law_ways_here", "_law_operator", "_law_rows", "_law_found", "_law_form", "_law_its", "_law_arguments", "_law_price", "_law_taken", "_law_last", "_law_its_row", "_law_at"] ["_law_machine_here", "_law_ways_here", "_law_operator", "_law_rows"] (defScope s_law_row) := ⟨rfl, rfl, rfl, by decide +kernel, rfl, by decide +kernel, by decide +kernel⟩
abbrev s_law_rel : Stmt := topS 71
theorem sc_law_rel : FnScope ["_law_row_here", "_law_some", "_law_least", "_law_price"] ["_law_row_here"] (defScope s_law_rel) := ⟨rfl, rfl, rfl, by decide +kernel, rfl, by decide +kernel, by decide +kernel⟩
abbrev s_law_tree : Stmt := topS 72
theorem sc_law_tree : FnScope ["_law_pen_here", "_law_arities_here", "_law_most", "_law_leaves", "_law_found", "_law_turn", "_law_operator", "_law_last", "_law_parts", "_law_arity", "_law_place"] ["_law_pen_here", "_law_arities_here", "_law_most"] (defScope s_law_tree) := ⟨rfl, rfl, rfl, by decide +kernel, rfl, by decide +kernel, by decide +kernel⟩
abbrev s_law_machine : Stmt := topS 73
theorem sc_law_machine : FnScope ["_law_pen_here", "_law_forms", "_law_dear", "_law_arities_here", "_law_many", "_law_found", "_law_operator", "_law_arity", "_law_turn", "_law_arguments", "_law_legs", "_law_first", "_law_place"] ["_law_pen_here", "_law_forms", "_law_dear"] (defScope s_law_machine) := ⟨rfl, rfl, rfl, by decide +kernel, rfl, by decide +kernel, by decide +kernel⟩
abbrev s_law_over : Stmt := topS 74
theorem sc_law_over : FnScope ["_law_operator", "_law_trees", "_law_found", "_law_ends", "_law_tree_here", "_law_ahead", "_law_node", "_law_part"] ["_law_operator", "_law_trees"] (defScope s_law_over) := ⟨rfl, rfl, rfl, by decide +kernel, rfl, by decide +kernel, by decide +kernel⟩
abbrev s_law_pairs : Stmt := topS 75
theorem sc_law_pairs : FnScope ["_law_machine_here", "_law_many", "_law_found", "_law_operator", "_law_arity", "_law_one", "_law_other"] ["_law_machine_here", "_law_many"] (defScope s_law_pairs) := ⟨rfl, rfl, rfl, by decide +kernel, rfl, by decide +kernel, by decide +kernel⟩
abbrev s_law_order : Stmt := topS 76
theorem sc_law_order : FnScope ["_law_machine_here", "_law_most", "_law_ways_here", "_law_found", "_law_known", "_law_grown", "_law_operator", "_law_numbers", "_law_state", "_law_tree_here", "_law_number"] ["_law_machine_here", "_law_most"] (defScope s_law_order) := ⟨rfl, rfl, rfl, by decide +kernel, rfl, by decide +kernel, by decide +kernel⟩
abbrev s_law_few : Stmt := topS 77
theorem sc_law_few : FnScope ["_law_pen_here", "_law_most", "_law_turn", "_law_machine_here", "_law_order_here"] ["_law_pen_here", "_law_most"] (defScope s_law_few) := ⟨rfl, rfl, rfl, by decide +kernel, rfl, by decide +kernel, by decide +kernel⟩
abbrev s_law_wider : Stmt := topS 78
theorem sc_law_wider : FnScope ["_law_pen_here", "_law_machine_here", "_law_arities_here", "_law_many", "_law_instructions", "_law_legs", "_law_more", "_law_operator", "_law_arity", "_law_arguments", "_law_place"] ["_law_pen_here", "_law_machine_here"] (defScope s_law_wider) := ⟨rfl, rfl, rfl, by decide +kernel, rfl, by decide +kernel, by decide +kernel⟩
abbrev s_law_class_of : Stmt := topS 79
theorem sc_law_class_of : FnScope ["_law_told", "_law_state", "_law_number", "_law_some"] ["_law_told", "_law_state"] (defScope s_law_class_of) := ⟨rfl, rfl, rfl, by decide +kernel, rfl, by decide +kernel, by decide +kernel⟩
abbrev s_law_is_few : Stmt := topS 80
theorem sc_law_is_few : FnScope ["_law_machine_here"] ["_law_machine_here"] (defScope s_law_is_few) := ⟨rfl, rfl, rfl, by decide +kernel, rfl, by decide +kernel, by decide +kernel⟩
abbrev s_law : Stmt := topS 81
theorem sc_law : FnScope ["_law_script", "_law_k", "_law_pen_here", "_law_turn", "_law_machine_here", "_law_order_here", "_law_wider_here", "_law_one", "_law_other", "_law_marks", "_law_lap", "_law_tree_here", "_law_mine", "_law_its", "_law_mark"] ["_law_script"] (defScope s_law) := ⟨rfl, rfl, rfl, by decide +kernel, rfl, by decide +kernel, by decide +kernel⟩
end Cp
end

section
set_option Elab.async false
set_option linter.all false
set_option maxRecDepth 100000
set_option maxHeartbeats 0
namespace Cp
open PySem PySem.Spec PyProof.Rows L2
def dd_is_between : He.DefD := ⟨("is_between", none), "is_between", "is_between", defArgs s_is_between, defBody s_is_between, defScope s_is_between, [], []⟩
def dd_is_count : He.DefD := ⟨("is_count", none), "is_count", "is_count", defArgs s_is_count, defBody s_is_count, defScope s_is_count, [], []⟩
def dd_is_arities : He.DefD := ⟨("is_arities", none), "is_arities", "is_arities", defArgs s_is_arities, defBody s_is_arities, defScope s_is_arities, [], []⟩
def dd_is_instruction : He.DefD := ⟨("is_instruction", none), "is_instruction", "is_instruction", defArgs s_is_instruction, defBody s_is_instruction, defScope s_is_instruction, [], []⟩
def dd_is_conversion : He.DefD := ⟨("is_conversion", none), "is_conversion", "is_conversion", defArgs s_is_conversion, defBody s_is_conversion, defScope s_is_conversion, [], []⟩
def dd_is_machine : He.DefD := ⟨("is_machine", none), "is_machine", "is_machine", defArgs s_is_machine, defBody s_is_machine, defScope s_is_machine, [], []⟩
def dd_need_machine : He.DefD := ⟨("need_machine", none), "need_machine", "need_machine", defArgs s_need_machine, defBody s_need_machine, defScope s_need_machine, [], []⟩
def dd_greatest_price : He.DefD := ⟨("greatest_price", none), "greatest_price", "greatest_price", defArgs s_greatest_price, defBody s_greatest_price, defScope s_greatest_price, [], []⟩
def dd_is_node : He.DefD := ⟨("is_node", none), "is_node", "is_node", defArgs s_is_node, defBody s_is_node, defScope s_is_node, [], []⟩
def dd_is_written : He.DefD := ⟨("is_written", none), "is_written", "is_written", defArgs s_is_written, defBody s_is_written, defScope s_is_written, [], []⟩
def dd_need_tree : He.DefD := ⟨("need_tree", none), "need_tree", "need_tree", defArgs s_need_tree, defBody s_need_tree, defScope s_need_tree, [], []⟩
def dd_less : He.DefD := ⟨("less", none), "less", "less", defArgs s_less, defBody s_less, defScope s_less, [], []⟩
def dd_total : He.DefD := ⟨("total", none), "total", "total", defArgs s_total, defBody s_total, defScope s_total, [], []⟩
def dd_ways_of : He.DefD := ⟨("ways_of", none), "ways_of", "ways_of", defArgs s_ways_of, defBody s_ways_of, defScope s_ways_of, [], []⟩
def dd_computed : He.DefD := ⟨("computed", none), "computed", "computed", defArgs s_computed, defBody s_computed, defScope s_computed, [], []⟩
def dd_converted : He.DefD := ⟨("converted", none), "converted", "converted", defArgs s_converted, defBody s_converted, defScope s_converted, [], []⟩
def dd_joined_row : He.DefD := ⟨("joined_row", none), "joined_row", "joined_row", defArgs s_joined_row, defBody s_joined_row, defScope s_joined_row, [], []⟩
def dd_rows_of : He.DefD := ⟨("rows_of", none), "rows_of", "rows_of", defArgs s_rows_of, defBody s_rows_of, defScope s_rows_of, [], []⟩
def dd_need_machine_and_tree : He.DefD := ⟨("need_machine_and_tree", none), "need_machine_and_tree", "need_machine_and_tree", defArgs s_need_machine_and_tree, defBody s_need_machine_and_tree, defScope s_need_machine_and_tree, [], []⟩
def dd_prices : He.DefD := ⟨("prices", none), "prices", "prices", defArgs s_prices, defBody s_prices, defScope s_prices, [], []⟩
def dd_base_of : He.DefD := ⟨("base_of", none), "base_of", "base_of", defArgs s_base_of, defBody s_base_of, defScope s_base_of, [], []⟩
def dd_relative_of : He.DefD := ⟨("relative_of", none), "relative_of", "relative_of", defArgs s_relative_of, defBody s_relative_of, defScope s_relative_of, [], []⟩
def dd_is_row : He.DefD := ⟨("is_row", none), "is_row", "is_row", defArgs s_is_row, defBody s_is_row, defScope s_is_row, [], []⟩
def dd_relative : He.DefD := ⟨("relative", none), "relative", "relative", defArgs s_relative, defBody s_relative, defScope s_relative, [], []⟩
def dd_stepped : He.DefD := ⟨("stepped", none), "stepped", "stepped", defArgs s_stepped, defBody s_stepped, defScope s_stepped, [], []⟩
def dd_spread : He.DefD := ⟨("spread", none), "spread", "spread", defArgs s_spread, defBody s_spread, defScope s_spread, [], []⟩
def dd_steps_from : He.DefD := ⟨("steps_from", none), "steps_from", "steps_from", defArgs s_steps_from, defBody s_steps_from, defScope s_steps_from, [], []⟩
def dd_explored : He.DefD := ⟨("explored", none), "explored", "explored", defArgs s_explored, defBody s_explored, defScope s_explored, [], []⟩
def dd_found_states : He.DefD := ⟨("found_states", none), "found_states", "found_states", defArgs s_found_states, defBody s_found_states, defScope s_found_states, [], []⟩
def dd_key_of : He.DefD := ⟨("key_of", none), "key_of", "key_of", defArgs s_key_of, defBody s_key_of, defScope s_key_of, [], []⟩
def dd_ordered : He.DefD := ⟨("ordered", none), "ordered", "ordered", defArgs s_ordered, defBody s_ordered, defScope s_ordered, [], []⟩
def dd_states : He.DefD := ⟨("states", none), "states", "states", defArgs s_states, defBody s_states, defScope s_states, [], []⟩
def dd_few_states : He.DefD := ⟨("few_states", none), "few_states", "few_states", defArgs s_few_states, defBody s_few_states, defScope s_few_states, [], []⟩
def dd_steps_of : He.DefD := ⟨("steps_of", none), "steps_of", "steps_of", defArgs s_steps_of, defBody s_steps_of, defScope s_steps_of, [], []⟩
def dd_moves_of : He.DefD := ⟨("moves_of", none), "moves_of", "moves_of", defArgs s_moves_of, defBody s_moves_of, defScope s_moves_of, [], []⟩
def dd_first_steps : He.DefD := ⟨("first_steps", none), "first_steps", "first_steps", defArgs s_first_steps, defBody s_first_steps, defScope s_first_steps, [], []⟩
def dd_first_rest : He.DefD := ⟨("first_rest", none), "first_rest", "first_rest", defArgs s_first_rest, defBody s_first_rest, defScope s_first_rest, [], []⟩
def dd_marks_of : He.DefD := ⟨("marks_of", none), "marks_of", "marks_of", defArgs s_marks_of, defBody s_marks_of, defScope s_marks_of, [], []⟩
def dd_parts_of : He.DefD := ⟨("parts_of", none), "parts_of", "parts_of", defArgs s_parts_of, defBody s_parts_of, defScope s_parts_of, [], []⟩
def dd_classes : He.DefD := ⟨("classes", none), "classes", "classes", defArgs s_classes, defBody s_classes, defScope s_classes, [], []⟩
def dd_law_cell_at : He.DefD := ⟨("_law_cell_at", none), "_law_cell_at", "_law_cell_at", defArgs s_law_cell_at, defBody s_law_cell_at, defScope s_law_cell_at, [], []⟩
def dd_law_pen : He.DefD := ⟨("_law_pen", none), "_law_pen", "_law_pen", defArgs s_law_pen, defBody s_law_pen, defScope s_law_pen, [], []⟩
def dd_law_draw : He.DefD := ⟨("_law_draw", none), "_law_draw", "_law_draw", defArgs s_law_draw, defBody s_law_draw, defScope s_law_draw, [], []⟩
def dd_law_pick : He.DefD := ⟨("_law_pick", none), "_law_pick", "_law_pick", defArgs s_law_pick, defBody s_law_pick, defScope s_law_pick, [], []⟩
def dd_law_arities : He.DefD := ⟨("_law_arities", none), "_law_arities", "_law_arities", defArgs s_law_arities, defBody s_law_arities, defScope s_law_arities, [], []⟩
def dd_law_ways : He.DefD := ⟨("_law_ways", none), "_law_ways", "_law_ways", defArgs s_law_ways, defBody s_law_ways, defScope s_law_ways, [], []⟩
def dd_law_row : He.DefD := ⟨("_law_row", none), "_law_row", "_law_row", defArgs s_law_row, defBody s_law_row, defScope s_law_row, [], []⟩
def dd_law_rel : He.DefD := ⟨("_law_rel", none), "_law_rel", "_law_rel", defArgs s_law_rel, defBody s_law_rel, defScope s_law_rel, [], []⟩
def dd_law_tree : He.DefD := ⟨("_law_tree", none), "_law_tree", "_law_tree", defArgs s_law_tree, defBody s_law_tree, defScope s_law_tree, [], []⟩
def dd_law_machine : He.DefD := ⟨("_law_machine", none), "_law_machine", "_law_machine", defArgs s_law_machine, defBody s_law_machine, defScope s_law_machine, [], []⟩
def dd_law_over : He.DefD := ⟨("_law_over", none), "_law_over", "_law_over", defArgs s_law_over, defBody s_law_over, defScope s_law_over, [], []⟩
def dd_law_pairs : He.DefD := ⟨("_law_pairs", none), "_law_pairs", "_law_pairs", defArgs s_law_pairs, defBody s_law_pairs, defScope s_law_pairs, [], []⟩
def dd_law_order : He.DefD := ⟨("_law_order", none), "_law_order", "_law_order", defArgs s_law_order, defBody s_law_order, defScope s_law_order, [], []⟩
def dd_law_few : He.DefD := ⟨("_law_few", none), "_law_few", "_law_few", defArgs s_law_few, defBody s_law_few, defScope s_law_few, [], []⟩
def dd_law_wider : He.DefD := ⟨("_law_wider", none), "_law_wider", "_law_wider", defArgs s_law_wider, defBody s_law_wider, defScope s_law_wider, [], []⟩
def dd_law_class_of : He.DefD := ⟨("_law_class_of", none), "_law_class_of", "_law_class_of", defArgs s_law_class_of, defBody s_law_class_of, defScope s_law_class_of, [], []⟩
def dd_law_is_few : He.DefD := ⟨("_law_is_few", none), "_law_is_few", "_law_is_few", defArgs s_law_is_few, defBody s_law_is_few, defScope s_law_is_few, [], []⟩
def dd_law : He.DefD := ⟨("law", none), "law", "law", defArgs s_law, defBody s_law, defScope s_law, [], []⟩
def fnP0 : List He.DefD := [dd_is_between, dd_is_count, dd_is_arities, dd_is_instruction, dd_is_conversion, dd_is_machine, dd_need_machine, dd_greatest_price, dd_is_node, dd_is_written, dd_need_tree, dd_less, dd_total, dd_ways_of, dd_computed, dd_converted, dd_joined_row, dd_rows_of, dd_need_machine_and_tree, dd_prices, dd_base_of, dd_relative_of, dd_is_row, dd_relative, dd_stepped, dd_spread, dd_steps_from, dd_explored, dd_found_states, dd_key_of]
def fnP1 : List He.DefD := [dd_ordered, dd_states, dd_few_states, dd_steps_of, dd_moves_of, dd_first_steps, dd_first_rest, dd_marks_of, dd_parts_of, dd_classes, dd_law_cell_at, dd_law_pen, dd_law_draw, dd_law_pick, dd_law_arities, dd_law_ways, dd_law_row, dd_law_rel, dd_law_tree, dd_law_machine, dd_law_over, dd_law_pairs, dd_law_order, dd_law_few, dd_law_wider, dd_law_class_of, dd_law_is_few, dd_law]
def fnL : List He.DefD := fnP0 ++ fnP1
def faP0 : List He.Fa := [.glo "is_between", .glo "is_count", .glo "is_arities", .glo "is_instruction", .glo "is_conversion", .glo "is_machine", .glo "need_machine", .glo "greatest_price", .glo "is_node", .glo "is_written", .glo "need_tree", .glo "less", .glo "total", .glo "ways_of", .glo "computed", .glo "converted", .glo "joined_row", .glo "rows_of", .glo "need_machine_and_tree", .glo "prices", .glo "base_of", .glo "relative_of", .glo "is_row", .glo "relative", .glo "stepped", .glo "spread", .glo "steps_from", .glo "explored", .glo "found_states", .glo "key_of"]
def faP1 : List He.Fa := [.glo "ordered", .glo "states", .glo "few_states", .glo "steps_of", .glo "moves_of", .glo "first_steps", .glo "first_rest", .glo "marks_of", .glo "parts_of", .glo "classes", .glo "_law_cell_at", .glo "_law_pen", .glo "_law_draw", .glo "_law_pick", .glo "_law_arities", .glo "_law_ways", .glo "_law_row", .glo "_law_rel", .glo "_law_tree", .glo "_law_machine", .glo "_law_over", .glo "_law_pairs", .glo "_law_order", .glo "_law_few", .glo "_law_wider", .glo "_law_class_of", .glo "_law_is_few", .glo "law", .int "MOST_OPERATORS" 6, .int "MOST_ARITY" 2]
def faP2 : List He.Fa := [.int "MOST_FORMS" 4, .int "MOST_INSTRUCTIONS" 24, .int "MOST_CONVERSIONS" 12, .int "MOST_PRICE" 20, .int "GOAL" 0, .int "MOST_STATES" 200, .int "FORMS_DECIDED" 2, .int "TIMES" 3, .int "MOST_PARTED" 60, .free "isinstance", .free "int", .free "bool", .free "tuple", .free "list", .free "len", .free "all", .free "max", .free "min", .free "sum", .free "enumerate", .free "range", .free "zip", .free "sorted"]
def faL : List He.Fa := faP0 ++ faP1 ++ faP2
def looseP0 : List PySem.Str := ["is_between", "is_count", "is_arities", "is_instruction", "is_conversion", "is_machine", "need_machine", "greatest_price", "is_node", "is_written", "need_tree", "less", "total", "ways_of", "computed", "converted", "joined_row", "rows_of", "need_machine_and_tree", "prices", "base_of", "relative_of", "is_row", "relative", "stepped", "spread", "steps_from", "explored", "found_states", "key_of"]
def looseP1 : List PySem.Str := ["ordered", "states", "few_states", "steps_of", "moves_of", "first_steps", "first_rest", "marks_of", "parts_of", "classes", "_law_cell_at", "_law_pen", "_law_draw", "_law_pick", "_law_arities", "_law_ways", "_law_row", "_law_rel", "_law_tree", "_law_machine", "_law_over", "_law_pairs", "_law_order", "_law_few", "_law_wider", "_law_class_of", "_law_is_few", "PickError", "NoMachine", "NoTree"]
def looseP2 : List PySem.Str := ["NoPrices", "Endless", "TooMany", "MOST_OPERATORS", "MOST_ARITY", "MOST_FORMS", "MOST_INSTRUCTIONS", "MOST_CONVERSIONS", "MOST_PRICE", "GOAL", "MOST_STATES", "FORMS_DECIDED", "TIMES", "MOST_PARTED", "__name__"]
def looseL : List PySem.Str := looseP0 ++ looseP1 ++ looseP2
abbrev RR : PySem.W.OpenRow := PySem.W.OpenLaw.row PySem.Challenge.rw_codepick_k53_whole_a_form_more
abbrev hk : PySem.W.Hook := He.hookD 4 faL fnL
def ob (s : PySem.W.SharedT) : He.AlD := He.obsDG 4 faL fnL (HandSHeadRun.getT s)
theorem ob_eq (s : PySem.W.SharedT) : ob s = hk.obs s.abs := He.obsDG_eq (HandSHeadRun.getT_eq s)
theorem run (w : World) : HandSHeadRun.RunEq RR (PySem.W.view RR.prog [81]) hk ob 4000 looseL w := by
  intro os
  kernel_rfl
end Cp
end

section
set_option Elab.async false
set_option linter.all false
/-! machines, rows, what the program computes of them: plain functions -/
namespace Cp
structure Ins where
  form : Nat
  op : Nat
  args : List Nat
  price : Int
structure Cv where
  first : Nat
  last : Nat
  price : Int
deriving DecidableEq
structure Mach where
  ar : List Nat
  n : Nat
  ins : List Ins
  cv : List Cv
structure OkI (ar : List Nat) (n : Nat) (i : Ins) : Prop where
  form : i.form < n
  op : ar[i.op]? = some i.args.length
  args : ∀ a ∈ i.args, a < n
  p0 : 0 ≤ i.price
  p1 : i.price ≤ 20
structure OkC (n : Nat) (c : Cv) : Prop where
  first : c.first < n
  last : c.last < n
  ne : c.first ≠ c.last
  p0 : 0 ≤ c.price
  p1 : c.price ≤ 20
structure Mach.Ok (m : Mach) : Prop where
  n1 : 1 ≤ m.n
  n4 : m.n ≤ 4
  a1 : 1 ≤ m.ar.length
  a6 : m.ar.length ≤ 6
  a2 : ∀ a ∈ m.ar, a ≤ 2
  ins : ∀ i ∈ m.ins, OkI m.ar m.n i
  cv : ∀ c ∈ m.cv, OkC m.n c
  iN : m.ins.length ≤ 24
  cN : m.cv.length ≤ 12
abbrev Row := List (Option Int)
def oless : Option Int → Option Int → Option Int
  | none, b => b
  | some a, none => some a
  | some a, some b => some (min a b)
def oadd : Option Int → Option Int → Option Int
  | some a, some b => some (a + b)
  | _, _ => none
def osum : Row → Option Int
  | [] => some 0
  | x :: r => oadd x (osum r)
/-- n turns -/
def itn {α : Type} (f : Nat → α → α) : Nat → α → α
  | 0, a => a
  | i + 1, a => f i (itn f i a)
def mget (m : List Row) (i j : Nat) : Option Int := (m.getD i []).getD j none
def mset (m : List Row) (i j : Nat) (v : Option Int) : List Row := m.set i ((m.getD i []).set j v)
def wof0 (n : Nat) : List Row := itn (fun i m => mset m i i (some 0)) n (List.replicate n (List.replicate n none))
def wofC (cv : List Cv) (m : List Row) : List Row := cv.foldl (fun m c => mset m c.first c.last (oless (mget m c.first c.last) (some c.price))) m
def wofT (a f l : Nat) (m : List Row) : List Row := mset m f l (oless (mget m f l) (osum [mget m f a, mget m a l]))
def wof2 (n : Nat) (m : List Row) : List Row := itn (fun a m => itn (fun f m => itn (fun l m => wofT a f l m) n m) n m) n m
def wof (n : Nat) (cv : List Cv) : List Row := wof2 n (wofC cv (wof0 n))
def partsF (rows : List Row) (args : List Nat) : Row := List.zipWith (fun row a => row.getD a none) rows args
def computedS (op : Nat) (rows : List Row) (i : Ins) (fd : Row) : Row := if i.op = op then fd.set i.form (oless (fd.getD i.form none) (osum (some i.price :: partsF rows i.args))) else fd
def computedF (n : Nat) (ins : List Ins) (op : Nat) (rows : List Row) : Row := ins.foldl (fun fd i => computedS op rows i fd) (List.replicate n none)
def convS (ways : List Row) (row : Row) (f l : Nat) (fd : Row) : Row := fd.set l (oless (fd.getD l none) (osum [row.getD f none, mget ways f l]))
def convertedF (ways : List Row) (row : Row) : Row := itn (fun f fd => itn (fun l fd => convS ways row f l fd) (ways.getD f []).length fd) row.length row
def jrowW (m : Mach) (ways : List Row) (op : Nat) (rows : List Row) : Row := convertedF ways (computedF m.n m.ins op rows)
def jrow (m : Mach) (op : Nat) (rows : List Row) : Row := jrowW m (wof m.n m.cv) op rows
def omin : Row → Option Int
  | [] => none
  | x :: r => oless x (omin r)
def baseF (row : Row) : Option Int := omin row
def relS (row : Row) : Row := row.map (Option.map (· - (baseF row).getD 0))
def somes (row : Row) : List Int := row.filterMap id
def lmx : List Int → Int
  | [] => 0
  | [x] => x
  | x :: r => max x (lmx r)
def spreadF (s : Row) : Int := lmx (somes s)
def gpF (m : Mach) : Int := lmx ([0] ++ m.ins.map (·.price) ++ m.cv.map (·.price))
theorem lmx_mem : ∀ {ns : List Int}, ns ≠ [] → lmx ns ∈ ns ∧ ∀ y ∈ ns, y ≤ lmx ns
  | [], h => absurd rfl h
  | [x], _ => by simp [lmx]
  | x :: y :: r, _ => by
    obtain ⟨h1, h2⟩ := lmx_mem (ns := y :: r) (by simp)
    have e : lmx (x :: y :: r) = max x (lmx (y :: r)) := rfl
    rw [e]
    refine ⟨?_, fun z hz => ?_⟩
    · rcases Int.le_total x (lmx (y :: r)) with h | h
      · rw [Int.max_eq_right h]; exact List.mem_cons_of_mem _ h1
      · rw [Int.max_eq_left h]; exact List.mem_cons_self ..
    · rcases List.mem_cons.mp hz with rfl | hz
      · omega
      · have := h2 z hz
        omega
theorem lmx_eq {ns : List Int} {m : Int} (h1 : m ∈ ns) (h2 : ∀ y ∈ ns, y ≤ m) : lmx ns = m := by
  obtain ⟨g1, g2⟩ := lmx_mem (ns := ns) (fun z => by rw [z] at h1; cases h1)
  have := h2 _ g1
  have := g2 _ h1
  omega
/-! trees as written -/
abbrev Nd := Nat × List Nat
def rowsS (m : Mach) (rs : List Row) (d : Nd) : List Row := rs ++ [jrow m d.1 (d.2.map fun a => rs.getD a [])]
def rowsF (m : Mach) (t : List Nd) : List Row := t.foldl (rowsS m) []
structure OkN (ar : List Nat) (k : Nat) (d : Nd) : Prop where
  op : ar[d.1]? = some d.2.length
  args : ∀ a ∈ d.2, a < k
structure OkT (ar : List Nat) (t : List Nd) : Prop where
  ne : t ≠ []
  nd : ∀ k d, t[k]? = some d → OkN ar k d
  len : t.length ≤ 1000
  a2 : ∀ a ∈ ar, a ≤ 2
/-! steps -/
def step1 (k op a : Nat) : List Nd :=
  if a = 0 ∧ k = 0 then [(op, [])] else if a = 1 ∧ 0 < k then [(op, [k - 1])] else
  if a = 2 ∧ 0 < k then (List.range k).map (fun o => (op, [k - 1, o])) ++ (List.range (k - 1)).map (fun o => (op, [o, k - 1])) else []
def stepsF (ar : List Nat) (k : Nat) : List Nd := itn (fun op acc => acc ++ step1 k op (ar.getD op 0)) ar.length []
/-- (operator, place, siblings) -/
abbrev Sto := Nat × Nat × List Nat
def plc (many op j : Nat) : List Sto := (List.range j).flatMap fun pl => (List.range many).map fun n => (op, pl, [n])
def stp1 (many op a : Nat) : List Sto := if a = 1 then [(op, 0, [])] else if a = 2 then plc many op 2 else []
def stepsO (ar : List Nat) (many : Nat) : List Sto := itn (fun op acc => acc ++ stp1 many op (ar.getD op 0)) ar.length []
theorem plc_succ (many op j : Nat) : plc many op (j + 1) = plc many op j ++ (List.range many).map fun n => (op, j, [n]) := by
  unfold plc
  rw [List.range_succ, List.flatMap_append]
  simp
theorem plc_len (many op : Nat) : ∀ j, (plc many op j).length = j * many
  | 0 => by simp [plc]
  | j + 1 => by rw [plc_succ, List.length_append, plc_len many op j, List.length_map, List.length_range, Nat.succ_mul]
theorem stp1_len (many op a : Nat) : (stp1 many op a).length ≤ 2 * many + 1 := by
  unfold stp1
  split
  · simp
  · split
    · rw [plc_len]; omega
    · simp
theorem stepsO_len {ar : List Nat} {many : Nat} : ∀ i, (itn (fun op acc => acc ++ stp1 many op (ar.getD op 0)) i []).length ≤ i * (2 * many + 1)
  | 0 => by simp [itn]
  | i + 1 => by
    have h1 := stepsO_len (ar := ar) (many := many) i
    have h2 := stp1_len many i (ar.getD i 0)
    show (_ ++ _ : List Sto).length ≤ _
    rw [List.length_append, Nat.succ_mul]
    omega
end Cp
end

section
set_option Elab.async false
set_option linter.all false
set_option maxRecDepth 100000
set_option maxHeartbeats 4000000
/-! what every def's proof uses -/
namespace Cp
open PySem PySem.Spec PyProof.Rows L2

/-! ### heaps -/
abbrev Ex (H H' : Hp) : Prop := ∀ b o, H b = some o → H' b = some o
theorem Ex.refl (H : Hp) : Ex H H := fun _ _ h => h
theorem Ex.trans {H H1 H2 : Hp} (a : Ex H H1) (b : Ex H1 H2) : Ex H H2 := fun c o h => b c o (a c o h)
theorem Ex.new {H : Hp} {p : Addr} {o : HO} (h : H p = none) : Ex H (upd H p o) := fun a u e => by
  rw [upd_ne (ne_of_none e h)]
  exact e
theorem Ex.newT {H0 H : Hp} {p : Addr} {o : HO} (e : Ex H0 H) (h : H p = none) : Ex H0 (upd H p o) := e.trans (Ex.new h)
/-- an object that H does not know may change -/
theorem Ex.mut {H H' : Hp} {p : Addr} {o : HO} (e : Ex H H') (h : H p = none) : Ex H (upd H' p o) := fun a u ha => by
  rw [upd_ne (ne_of_none ha h)]
  exact e a u ha
theorem Ex.free {H H' : Hp} (e : Ex H H') {l : Addr} (h : H' l = none) : H l = none := by
  cases q : H l with
  | none => rfl
  | some o =>
    rw [e l o q] at h
    cases h
theorem SqL.ex {K : PySem.W.Frag} {H H' : Hp} {a : Addr} {xs : List V} (h : SqL K H a xs) (e : Ex H H') : SqL K H' a xs := Same.seq (H := H) (H' := H') e h
theorem Rd.ex {H H' : Hp} {a : Addr} {u : HO} (h : Rd H a u) (e : Ex H H') : Rd H' a u := h.elim (fun h => .inl (e _ _ h)) fun ⟨o, h⟩ => .inr ⟨o, e _ _ h⟩
/-- the tuples stand -/
abbrev Tu (H H' : Hp) : Prop := ∀ b xs, H b = some (.tup xs) → H' b = some (.tup xs)
theorem Ex.tu {H H' : Hp} (e : Ex H H') : Tu H H' := fun b xs h => e b _ h
theorem Tu.refl (H : Hp) : Tu H H := fun _ _ h => h
theorem Tu.trans {H H1 H2 : Hp} (a : Tu H H1) (b : Tu H1 H2) : Tu H H2 := fun c o h => b c o (a c o h)
theorem Tu.lst {H : Hp} {l : Addr} {xs : List V} {o : HO} (h : H l = some (.lst xs)) : Tu H (upd H l o) := fun b ys e => by
  rw [upd_ne (ne_of e h (by intro z; cases z))]
  exact e
theorem Tu.dK {H : Hp} {l : Addr} {xs : List (Key × V)} {o : HO} (h : H l = some (.dK xs)) : Tu H (upd H l o) := fun b ys e => by
  rw [upd_ne (ne_of e h (by intro z; cases z))]
  exact e
theorem Tu.ext {H : Hp} {l : Addr} {φ : Heap → Prop} {o : HO} (h : H l = some (.ext φ)) : Tu H (upd H l o) := fun b ys e => by
  rw [upd_ne (ne_of e h (by intro z; cases z))]
  exact e
theorem Tu.new {H : Hp} {l : Addr} {o : HO} (h : H l = none) : Tu H (upd H l o) := (Ex.new h).tu

/-! ### data that never changes: None, bools, ints, tuples of such -/
mutual
inductive RD (H : Hp) : V → PyData → Prop where
  | non : RD H .non .none
  | bl (b : Bool) : RD H (.bl b) (.bool b)
  | int (i : Int) : RD H (.int i) (.int i)
  | tup {a : Addr} {xs : List V} {ds : List PyData} : H a = some (.tup xs) → RDs H xs ds → RD H (.ref a) (.tuple ds)
inductive RDs (H : Hp) : List V → List PyData → Prop where
  | nil : RDs H [] []
  | cons {v : V} {vs : List V} {d : PyData} {ds : List PyData} : RD H v d → RDs H vs ds → RDs H (v :: vs) (d :: ds)
end
section
variable {H H' : Hp}
theorem RD.inv_int {v : V} {i : Int} (h : RD H v (.int i)) : v = .int i := by cases h; rfl
theorem RD.inv_bl {v : V} {b : Bool} (h : RD H v (.bool b)) : v = .bl b := by cases h; rfl
theorem RD.inv_non {v : V} (h : RD H v .none) : v = .non := by cases h; rfl
theorem RD.inv_tup {v : V} {ds : List PyData} (h : RD H v (.tuple ds)) : ∃ a xs, v = .ref a ∧ H a = some (.tup xs) ∧ RDs H xs ds := by
  cases h with
  | tup e r => exact ⟨_, _, rfl, e, r⟩
mutual
theorem RD.tu (k : Tu H H') : ∀ {v : V} {d : PyData}, RD H v d → RD H' v d
  | _, _, .non => .non
  | _, _, .bl b => .bl b
  | _, _, .int i => .int i
  | _, _, .tup e r => .tup (k _ _ e) (RDs.tu k r)
theorem RDs.tu (k : Tu H H') : ∀ {v : List V} {d : List PyData}, RDs H v d → RDs H' v d
  | _, _, .nil => .nil
  | _, _, .cons h r => .cons (RD.tu k h) (RDs.tu k r)
end
theorem RD.ex {v : V} {d : PyData} (h : RD H v d) (e : Ex H H') : RD H' v d := h.tu e.tu
theorem RDs.ex {v : List V} {d : List PyData} (h : RDs H v d) (e : Ex H H') : RDs H' v d := h.tu e.tu
theorem RDs.length : ∀ {xs : List V} {ds : List PyData}, RDs H xs ds → xs.length = ds.length
  | _, _, .nil => rfl
  | _, _, .cons _ r => by rw [List.length_cons, List.length_cons, r.length]
theorem RDs.at : ∀ {xs : List V} {ds : List PyData} {i : Nat} {d : PyData}, RDs H xs ds → ds[i]? = some d → ∃ x, xs[i]? = some x ∧ RD H x d
  | _, _, _, _, .nil, e => by simp at e
  | _, _, 0, _, .cons h _, e => by simp at e; subst e; exact ⟨_, rfl, h⟩
  | _, _, i + 1, _, .cons _ r, e => by
    obtain ⟨x, e1, h⟩ := RDs.at r (i := i) (by simpa using e)
    exact ⟨x, by simpa using e1, h⟩
theorem RDs.of : ∀ {xs : List V} {ds : List PyData} {i : Nat} {x : V}, RDs H xs ds → xs[i]? = some x → ∃ d, ds[i]? = some d ∧ RD H x d
  | _, _, _, _, .nil, e => by simp at e
  | _, _, 0, _, .cons h _, e => by simp at e; subst e; exact ⟨_, rfl, h⟩
  | _, _, i + 1, _, .cons _ r, e => by
    obtain ⟨d, e1, h⟩ := RDs.of r (i := i) (by simpa using e)
    exact ⟨d, by simpa using e1, h⟩
theorem RDs.app : ∀ {xs ys : List V} {ds es : List PyData}, RDs H xs ds → RDs H ys es → RDs H (xs ++ ys) (ds ++ es)
  | _, _, _, _, .nil, r => r
  | _, _, _, _, .cons h r, q => .cons h (r.app q)
theorem RDs.snoc {xs : List V} {ds : List PyData} {x : V} {d : PyData} (r : RDs H xs ds) (h : RD H x d) : RDs H (xs ++ [x]) (ds ++ [d]) := r.app (.cons h .nil)
theorem RDs.take : ∀ {xs : List V} {ds : List PyData} (n : Nat), RDs H xs ds → RDs H (xs.take n) (ds.take n)
  | _, _, 0, _ => .nil
  | _, _, _ + 1, .nil => .nil
  | _, _, n + 1, .cons h r => .cons h (r.take n)
theorem RDs.drop : ∀ {xs : List V} {ds : List PyData} (n : Nat), RDs H xs ds → RDs H (xs.drop n) (ds.drop n)
  | _, _, 0, r => r
  | _, _, _ + 1, .nil => .nil
  | _, _, n + 1, .cons _ r => r.drop n
theorem RDs.set : ∀ {xs : List V} {ds : List PyData} {x : V} {d : PyData} (n : Nat), RDs H xs ds → RD H x d → RDs H (xs.set n x) (ds.set n d)
  | _, _, _, _, _, .nil, _ => .nil
  | _, _, _, _, 0, .cons _ r, h => .cons h r
  | _, _, _, _, n + 1, .cons q r, h => .cons q (r.set n h)
mutual
theorem RD.inj : ∀ {v : V} {d e : PyData}, RD H v d → RD H v e → d = e
  | _, _, _, .non, .non => rfl
  | _, _, _, .bl _, .bl _ => rfl
  | _, _, _, .int _, .int _ => rfl
  | _, _, _, .tup e r, .tup e' r' => by
    rw [e] at e'
    cases e'
    rw [RDs.inj r r']
theorem RDs.inj : ∀ {v : List V} {d e : List PyData}, RDs H v d → RDs H v e → d = e
  | _, _, _, .nil, .nil => rfl
  | _, _, _, .cons h r, .cons h' r' => by rw [RD.inj h h', RDs.inj r r']
end
mutual
theorem RD.dp {K : PySem.W.Frag} : ∀ {v : V} {d : PyData}, RD H v d → Dp K H v d
  | _, _, .non => .non
  | _, _, .bl b => .bl b
  | _, _, .int i => .int i
  | _, _, .tup e r => .tup (SqT.of e) (RDs.dp r)
theorem RDs.dp {K : PySem.W.Frag} : ∀ {v : List V} {d : List PyData}, RDs H v d → DpAll K H v d
  | _, _, .nil => .nil
  | _, _, .cons h r => .cons (RD.dp h) (RDs.dp r)
end
end
/-- ints, Nones and ints -/
def dO : Option Int → PyData
  | none => .none
  | some i => .int i
def vO : Option Int → V
  | none => .non
  | some i => .int i
theorem rd_o {H : Hp} (x : Option Int) : RD H (vO x) (dO x) := by
  cases x with
  | none => exact .non
  | some i => exact .int i
theorem RD.inv_o {H : Hp} {v : V} {x : Option Int} (h : RD H v (dO x)) : v = vO x := by
  cases x with
  | none => exact h.inv_non
  | some i => exact h.inv_int
theorem rds_o {H : Hp} : ∀ (xs : List (Option Int)), RDs H (xs.map vO) (xs.map dO)
  | [] => .nil
  | x :: r => .cons (rd_o x) (rds_o r)
theorem RDs.inv_o {H : Hp} : ∀ {vs : List V} {xs : List (Option Int)}, RDs H vs (xs.map dO) → vs = xs.map vO
  | _, [], .nil => rfl
  | _, x :: r, .cons h q => by rw [h.inv_o, q.inv_o]; rfl
theorem rds_i {H : Hp} : ∀ (xs : List Int), RDs H (xs.map V.int) (xs.map PyData.int)
  | [] => .nil
  | x :: r => .cons (.int x) (rds_i r)
theorem RDs.inv_i {H : Hp} : ∀ {vs : List V} {xs : List Int}, RDs H vs (xs.map PyData.int) → vs = xs.map V.int
  | _, [], .nil => rfl
  | _, x :: r, .cons h q => by rw [h.inv_int, q.inv_i]; rfl

/-! ### a def as its callers see it -/
structure Def (K : PySem.W.Frag) (mg : Str → Option Value) (x : Str) (st : Stmt) : Prop where
  ex : ∃ f fd, Fun K x x st f fd ∧ mg x = some (.ref f)
structure Cal (P : Program) (w : World) (K : PySem.W.Frag) (mg : Str → Option Value) (base : Heap) (CX : CXT) (x : Str) (k : Nat) (ps : List Str) (sp : Sp) : Prop where
  ex : ∃ f fd, FnOk P w K mg base CX k f fd ps sp ∧ mg x = some (.ref f) ∧ PySem.W.keepIn K (.ref f) = true ∧ Binds K fd ps []
theorem pe_cal {X : Cx} {CX : CXT} {x : Str} {k : Nat} {ps : List Str} {sp : Sp} {E : XK} {e : Expr} {es : List Expr} {t : TA} {p pos : Pos} (C : Cal X.prog X.w X.K X.mg X.base CX x k ps sp) (hr : Room k X.A) (hg : Gl X x) (hx : Passes CX X E)
    (ha : PA X (e :: es) t) (hdb : (x == ("__debug__" : Str)) = false := by decide) (he : starEach (e :: es) X.env = (false, eval e X.env) :: starEach es X.env := by rfl) (hpl : (backTo pos (starEach es X.env)).any (·.1) = false := by rfl) :
    PE X (.Call (.Name x p) (e :: es) [] pos) (tCall sp [] E t) := by
  obtain ⟨f, fd, F, hm, hk, hb⟩ := C.ex
  exact pe_call F hr hg hm hk hb .nil hx ha hdb he hpl
theorem pe_cst {X : Cx} {x : Str} {i : Int} {pos : Pos} (hm : ∃ t, X.mg x = some (.int i t)) (hg : Gl X x := by rfl) (hd : (x == ("__debug__" : Str)) = false := by decide) : PE X (.Name x pos) (tC (.int i)) := by
  obtain ⟨t, e⟩ := hm
  exact pe_glob hg e ⟨t, rfl⟩ hd
theorem hu65 {k : Nat} {A : Around} (r : Room k A) : A.units + 65 < cLine := by have := r.un; omega
/-- what the top leaves of builtins' names and constants -/
structure Tx (mg : Str → Option Value) : Prop where
  isinstance : mg "isinstance" = none
  int : mg "int" = none
  bool : mg "bool" = none
  tuple : mg "tuple" = none
  list : mg "list" = none
  len : mg "len" = none
  all : mg "all" = none
  max : mg "max" = none
  min : mg "min" = none
  sum : mg "sum" = none
  enumerate : mg "enumerate" = none
  range : mg "range" = none
  zip : mg "zip" = none
  sorted : mg "sorted" = none
  cMOST_OPERATORS : ∃ t, mg "MOST_OPERATORS" = some (.int 6 t)
  cMOST_ARITY : ∃ t, mg "MOST_ARITY" = some (.int 2 t)
  cMOST_FORMS : ∃ t, mg "MOST_FORMS" = some (.int 4 t)
  cMOST_INSTRUCTIONS : ∃ t, mg "MOST_INSTRUCTIONS" = some (.int 24 t)
  cMOST_CONVERSIONS : ∃ t, mg "MOST_CONVERSIONS" = some (.int 12 t)
  cMOST_PRICE : ∃ t, mg "MOST_PRICE" = some (.int 20 t)
  cGOAL : ∃ t, mg "GOAL" = some (.int 0 t)
  cMOST_STATES : ∃ t, mg "MOST_STATES" = some (.int 200 t)
  cFORMS_DECIDED : ∃ t, mg "FORMS_DECIDED" = some (.int 2 t)
  cTIMES : ∃ t, mg "TIMES" = some (.int 3 t)
  cMOST_PARTED : ∃ t, mg "MOST_PARTED" = some (.int 60 t)
/-! isinstance -/
section
variable {K : PySem.W.Frag} {H : Hp} {Q : VK}
theorem kit_ii : PySem.W.kitOne K (.type "int") (.type "int") = some true := kit_ty (by decide +kernel)
theorem kit_ib : PySem.W.kitOne K (.type "int") (.type "bool") = some false := kit_ty (by decide +kernel)
theorem kit_tt : PySem.W.kitOne K (.type "tuple") (.type "tuple") = some true := kit_ty (by decide +kernel)
end
end Cp
end

section
set_option Elab.async false
set_option linter.all false
set_option maxRecDepth 100000
set_option maxHeartbeats 4000000
/-! rules that this claim adds: enumerate over a tuple, zip of a list and a tuple -/
namespace Cp
open PySem PySem.Spec PyProof.Rows L2

/-- a walk of n turns while Src holds -/
def ItN (n : Nat) (Src : Hp → Prop) (Y : Nat → Hp → V → Hp → Prop) : It := ⟨fun i H => i < n ∧ Src H, Y, fun i H => i = n ∧ Src H⟩
theorem walk_n {n : Nat} {Src : Hp → Prop} {Y : Nat → Hp → V → Hp → Prop} : Walk (ItN n Src Y) n Src Y :=
  ⟨fun _ _ hi q => ⟨hi, q⟩, fun _ q => ⟨rfl, q⟩, fun _ _ _ _ _ _ y => y⟩
/-- a new pair each turn -/
def YP (f g : Nat → Option V) : Nat → Hp → V → Hp → Prop := fun i H v H' => ∃ T x y, v = .ref T ∧ H T = none ∧ H' = upd H T (.tup [x, y]) ∧ f i = some x ∧ g i = some y

section
variable {prog : Program} {w : World} {A : Around} {E : Value → Shared → Prop} {s : Shared}
theorem newEnum1 {v : Value} {o : Obj} {G : Heap → Prop} (B : Begins v o G) :
    Meets (Builtin.«enumerate.__new__» ⟨[.type "enumerate", v], []⟩) (fun _ R s => G s.heap ∧ R (.ok (.ret (.ref (s.heap.push o).objs.size)))
      { s with heap := (s.heap.push o).push { cls := .type "enumerate", data := .fields #[.none, .bool false, .ref s.heap.objs.size, rawInt 0, .none, .none] } }) := by
  refine .of_wp fun prog w A R s h => ?_
  obtain ⟨hp, g, d, tk, os⟩ := s
  obtain ⟨hG, fin⟩ := h
  have hsub := sub_enumerate
  have start : ∀ {A' : Around} {E : Value → Shared → Prop} {Q : Value → Shared → Prop}, Q (.ref hp.objs.size) ⟨hp.push o, g, d, tk, os⟩ → wpAny (model prog w) A' (pyIter v) Q E ⟨hp, g, d, tk, os⟩ :=
    fun q => B.iter prog w _ _ ⟨hp, g, d, tk, os⟩ _ hG q
  wp_walk using start
  refine wpAny_stack_any fun st => wpAny_pure ?_
  split
  · rename_i c _ _ _ _ _
    cases (c == Value.type "enumerate") <;> (wp_walk using start; exact ⟨_, rfl, fin⟩)
  · wp_walk using start
    exact ⟨_, rfl, fin⟩
theorem callEnum1 {v : Value} {o : Obj} {G : Heap → Prop} {Q : Value → Shared → Prop} (B : Begins v o G) (hG : G s.heap)
    (h : ∀ h', IsEnum h' (s.heap.objs.size + 1) s.heap.objs.size 0 .none → h'.get? s.heap.objs.size = some o → (∀ b ob, s.heap.get? b = some ob → h'.get? b = some ob) →
      Q (.ref (s.heap.objs.size + 1)) { s with heap := h' }) : wpAny (model prog w) A (call (.type "enumerate") [v]) Q E s := by
  refine callType_new F.called_enumerate (by decide) (F.typeCall_enumerate_1 _) (F.newCall_enumerate_1 _) (fun obj => F.args_object_init_2 obj _) F.entry_enumerate_new (newEnum1 B) ⟨hG, ?_⟩
  have z1 : (s.heap.push o).objs.size = s.heap.objs.size + 1 := Heap.size_push ..
  have at1 : ((s.heap.push o).push { cls := .type "enumerate", data := .fields #[.none, .bool false, .ref s.heap.objs.size, rawInt 0, .none, .none] }).get? (s.heap.objs.size + 1) = some { cls := .type "enumerate", data := .fields #[.none, .bool false, .ref s.heap.objs.size, rawInt 0, .none, .none] } := by
    rw [← z1]
    exact Heap.get?_push_size _ rfl
  show _ ∧ _
  rw [z1]
  exact ⟨⟨_, at1, rfl⟩, h _ at1 (Heap.get?_push_of_some _ (Heap.get?_push_size _ B.free)) fun b ob e => Heap.get?_push_of_some _ (Heap.get?_push_of_some _ e)⟩
end

/-! ### enumerate over a tuple -/
section
variable {P : Program} {w : World} {K : PySem.W.Frag} {elts : List Expr} {kk : Nat} {tpos : Pos}
/-- the pairs (place, item) of the tuple at a -/
def ItE (K : PySem.W.Frag) (a : Addr) (xs : List V) : It := ItN xs.length (fun H => SqT K H a xs) (YP (fun i => some (.int (i : Nat))) (fun i => xs[i]?))
theorem turnEnumT (a : Addr) (xs : List V) (e it : Addr) : Turn P w K (.Tuple elts kk tpos) (ItE K a xs) [e, it] e (fun i h => (∃ old, IsEnum h e it ((i : Nat) : Int) old) ∧ h.IsTupleIter it a i ∧ e ≠ it) where
  mem := List.mem_cons_self ..
  obj := by
    intro i h ⟨⟨old, he⟩, ⟨o, ho, hc, hd⟩, _⟩ b hb
    rcases List.mem_cons.mp hb with rfl | hb
    · exact ⟨_, he, fun v q => nomatch q⟩
    · rw [List.mem_singleton.mp hb]
      exact ⟨o, ho, fun v q => by rw [hd] at q; cases q⟩
  keep := by
    intro i h h' ⟨⟨old, he⟩, hi, hne⟩ k
    exact ⟨⟨old, k e (by simp) _ he⟩, hi.at fun o q => k it (by simp) o q, hne⟩
  item := by
    intro X hP hw hK hc i pins s σ H E I hf st hg
    subst hP hw hK
    obtain ⟨⟨old, he⟩, hit, hne⟩ := st
    obtain ⟨hi, hq⟩ := hg
    obtain ⟨its, rv, ht, hz⟩ := I.tuple hq
    have hh : X.A.handled = none := I.ok.hd hc
    have nta : a ≠ it := by
      rintro rfl
      obtain ⟨o1, h1, c1, _⟩ := id hit
      obtain ⟨o2, h2, c2, _⟩ := id ht
      rw [h1] at h2
      cases h2
      rw [c1] at c2
      exact absurd (Value.type.inj c2) (by decide)
    have nea : e ≠ a := by
      rintro rfl
      obtain ⟨o2, h2, c2, _⟩ := id ht
      have he' : s.heap.get? e = some _ := he
      rw [he'] at h2
      cases h2
      exact absurd (Value.type.inj c2) (by decide)
    have hel : e < s.heap.objs.size := Heap.lt_size he
    have hil : it < s.heap.objs.size := by obtain ⟨_, q, _⟩ := id hit; exact Heap.lt_size q
    have len : its.toArray.size = xs.length := by rw [List.size_toArray]; exact rv.length.symm
    refine wpAny_pyNext_enum_itemD (Draws.tuple (A := X.A.in1) hh it a nta its.toArray) he ⟨hit, ht⟩ (by rw [len]; exact hi) hne (by simp [hne, nea]) fun x h' tk hx ho st' hT hsz hk => ?_
    refine ⟨_, rfl, wpAny_letOwnedTupleGo_enum (s := { s with heap := h', toks := tk + 1 }) ho fun h'' he' sb => ?_⟩
    have hi2 : its[i]? = some x := by simpa using hx
    obtain ⟨y, hy⟩ : ∃ y, xs[i]? = some y := ⟨xs[i], List.getElem?_eq_getElem hi⟩
    obtain ⟨u, hu, ru⟩ := rv.get hy
    rw [hi2] at hu
    cases hu
    have hT2 : h''.get? s.heap.objs.size = some { cls := .type "tuple", data := .seq #[.int i tk, x] } := (sb.2 _ (Nat.ne_of_gt hel)).trans hT
    have new : ObjOk X.prog X.w (upd H s.heap.objs.size (.tup [.int (i : Nat), y])) h'' s.heap.objs.size (.tup [.int (i : Nat), y]) :=
      ⟨by show 2 ≤ sizeLine; decide, [.int i tk, x], .cons ⟨_, rfl⟩ (.cons ru .nil), ⟨_, hT2, rfl, _, rfl⟩⟩
    have I1 := I.turnedNew (t' := tk + 1) (ch := [e, it]) (fun b ob hb q => (sb.2 b (fun z => hb (by simp [z]))).trans (hk b ob (fun z => hb (by simp [z])) (fun z => hb (by simp [z])) q)) hf (Nat.le_refl _) new
    refine ⟨.ref s.heap.objs.size, _, I1, rfl, ⟨_, _, y, rfl, I.hok.fresh (Nat.le_refl _), rfl, rfl, hy⟩, ⟨⟨x, ?_⟩, st'.1.at fun o q => (sb.2 it (Ne.symm hne)).trans q, hne⟩, fun b hb => ?_⟩
    · have e1 : ((i + 1 : Nat) : Int) = (i : Int) + 1 := by omega
      rw [e1]
      exact he'
    · have hb' : b < s.heap.objs.size := by
        rcases List.mem_cons.mp hb with rfl | hb
        · exact hel
        · rw [List.mem_singleton.mp hb]
          exact hil
      rw [upd_ne (Nat.ne_of_lt hb')]
      exact (hf b hb).1
  done := by
    intro X hP hw hK hc i pins s σ H E I hf st hg
    subst hP hw hK
    obtain ⟨⟨old, he⟩, hit, hne⟩ := st
    obtain ⟨rfl, hq⟩ := hg
    obtain ⟨its, rv, ht, hz⟩ := I.tuple hq
    have nta : a ≠ it := by
      rintro rfl
      obtain ⟨o1, h1, c1, _⟩ := id hit
      obtain ⟨o2, h2, c2, _⟩ := id ht
      rw [h1] at h2
      cases h2
      rw [c1] at c2
      exact absurd (Value.type.inj c2) (by decide)
    obtain ⟨f0, f1, f2, f3, f4, f5⟩ := hf it (by simp)
    have len : its.toArray.size = xs.length := by rw [List.size_toArray]; exact rv.length.symm
    refine wpAny_pyNext_enum_endD (Draws.tuple (A := X.A.in1) (I.ok.hd hc) it a nta its.toArray) he (by rw [len]; exact ⟨hit, ht⟩) fun h' eb => ⟨rfl, I.turned (t' := s.toks) (fun b o hb q => eb b o hb q) f0 f1 f3 f4 f5⟩
  self := fun A i s Q E st h => let ⟨⟨_, he⟩, _⟩ := st; wpAny_pyIter_enum he h
def iEnumT (K : PySem.W.Frag) (ta : TA) : TI := fun σ H R => ta σ H fun vs H1 => ∃ a xs, vs = [.ref a] ∧ SqT K H1 a xs ∧ R (ItE K a xs) H1
theorem pi_enumT {X : Cx} {e : Expr} {ta : TA} {p pos : Pos} (hg : Gl X "enumerate") (hm : X.mg "enumerate" = none) (ha : PA X [e] ta) (hs : starEach [e] X.env = [(false, eval e X.env)] := by rfl) :
    PI X (.Tuple elts kk tpos) (.Call (.Name "enumerate" p) [e] [] pos) (iEnumT X.K ta) := by
  refine ⟨fun pins s σ H R I h => Call_ (ld_blt I hg hm boot_enumerate (PyProof.Rows.callWith_type1 (thn (ha.run pos pins s σ H _ I h) fun us s1 q1 => ?_) hs rfl))⟩
  obtain ⟨vs, H1, I1, r1, a, xs, rfl, hq, q⟩ := q1
  obtain ⟨u, rfl, r⟩ := vals1 r1
  cases r
  obtain ⟨its, rv, ht, hz⟩ := I1.tuple hq
  refine callEnum1 (begins_tuple a its.toArray) ht fun h' he hit hk => wpAny_pyIter_enum he ?_
  have I2 : Inv X pins σ H1 { s1 with heap := h' } := I1.kept (t' := s1.toks) hk
  refine ⟨s1.heap.objs.size + 1, [s1.heap.objs.size + 1, s1.heap.objs.size], _, _, H1, rfl, I2, turnEnumT a xs (s1.heap.objs.size + 1) s1.heap.objs.size, ⟨⟨.none, he⟩, ⟨_, hit, rfl, rfl⟩, Nat.succ_ne_self _⟩, fun b hb => ?_, q⟩
  have hle : s1.heap.objs.size ≤ b := by
    rcases List.mem_cons.mp hb with rfl | hb
    · exact Nat.le_add_right _ _
    · rw [List.mem_singleton.mp hb]
      exact Nat.le_refl _
  exact I1.fpOk hle (I1.hok.fresh hle)
end
end Cp
end

section
set_option Elab.async false
set_option linter.all false
set_option maxRecDepth 100000
set_option maxHeartbeats 4000000
namespace Cp
open PySem PySem.Spec PyProof.Rows L2
section
variable {P : Program} {w : World} {K : PySem.W.Frag} {elts : List Expr} {kk : Nat} {tpos : Pos}
theorem cls_apart {h : Heap} {a b : Addr} {o1 o2 : Obj} {m n : String} (h1 : h.get? a = some o1) (h2 : h.get? b = some o2) (c1 : o1.cls = .type m) (c2 : o2.cls = .type n) (d : m ≠ n) : a ≠ b := by
  rintro rfl
  rw [h1] at h2
  cases h2
  rw [c1] at c2
  exact d (Value.type.inj c2)
/-- zip of the list at a and the tuple at b -/
def ItZ (K : PySem.W.Frag) (a b : Addr) (xs ys : List V) : It := ItN (min xs.length ys.length) (fun H => SqL K H a xs ∧ H b = some (.tup ys)) (YP (fun i => xs[i]?) (fun i => ys[i]?))
structure ZS (z TI TO i1 i2 a b : Addr) (i : Nat) (h : Heap) : Prop where
  hz : IsZip h z TI TO .none
  hI : IsTupOf2 h TI (.ref i1) (.ref i2)
  hO : ∃ x y, IsTupOf2 h TO x y
  h1 : h.IsListIter i1 a i
  h2 : h.IsTupleIter i2 b i
theorem zsep {h : Heap} {z TI TO i1 i2 a b : Addr} {i : Nat} {us ws : Array Value} (st : ZS z TI TO i1 i2 a b i h) (hl : h.IsList a us) (ht : h.IsTuple b ws) (hTT : TI ≠ TO) (nTa : TI ≠ b) (nTb : TO ≠ b) : ZipSep2 z TI TO i1 i2 [i1, a] [i2, b] := by
  obtain ⟨hz, hI, ⟨x, y, hO⟩, ⟨o1, e1, c1, _⟩, ⟨o2, e2, c2, _⟩⟩ := st
  obtain ⟨ol, el, cl, _⟩ := hl
  obtain ⟨ot, et, ct, _⟩ := ht
  have hz' : h.get? z = some _ := hz
  have hI' : h.get? TI = some _ := hI
  have hO' : h.get? TO = some _ := hO
  refine { TIz := cls_apart hI' hz' rfl rfl (by decide), TOz := cls_apart hO' hz' rfl rfl (by decide), TITO := hTT, TIi1 := cls_apart hI' e1 rfl c1 (by decide), mem1 := by simp, zf1 := ?_, Tf1 := ?_, TIi2 := cls_apart hI' e2 rfl c2 (by decide), mem2 := by simp, zf2 := ?_, Tf2 := ?_, sep1_2 := ?_, sep2_1 := ?_ }
  · simp [cls_apart hz' e1 rfl c1 (by decide), cls_apart hz' el rfl cl (by decide)]
  · simp [cls_apart hO' e1 rfl c1 (by decide), cls_apart hO' el rfl cl (by decide)]
  · simp [cls_apart hz' e2 rfl c2 (by decide), cls_apart hz' et rfl ct (by decide)]
  · simp [cls_apart hO' e2 rfl c2 (by decide), nTb]
  · simp [cls_apart e1 e2 c1 c2 (by decide), cls_apart e1 et c1 ct (by decide)]
  · simp [cls_apart e2 e1 c2 c1 (by decide), cls_apart e2 el c2 cl (by decide)]
theorem ZS.mono {z TI TO i1 i2 a b : Addr} {i : Nat} {h h' : Heap} (st : ZS z TI TO i1 i2 a b i h) (k : ∀ c ∈ [z, TI, TO, i1, i2], ∀ o, h.get? c = some o → h'.get? c = some o) : ZS z TI TO i1 i2 a b i h' :=
  ⟨k z (by simp) _ st.hz, k TI (by simp) _ st.hI, let ⟨x, y, e⟩ := st.hO; ⟨x, y, k TO (by simp) _ e⟩, st.h1.at fun o q => k i1 (by simp) o q, st.h2.at fun o q => k i2 (by simp) o q⟩
theorem turnZip (a b : Addr) (xs ys : List V) {z TI TO i1 i2 : Addr} (hTT : TI ≠ TO) : Turn P w K (.Tuple elts kk tpos) (ItZ K a b xs ys) [z, TI, TO, i1, i2] z (ZS z TI TO i1 i2 a b) where
  mem := List.mem_cons_self ..
  obj := by
    intro i h st c hc
    obtain ⟨hz, hI, ⟨x, y, hO⟩, ⟨o1, e1, _, d1⟩, ⟨o2, e2, _, d2⟩⟩ := st
    have q : c = z ∨ c = TI ∨ c = TO ∨ c = i1 ∨ c = i2 := by simpa using hc
    rcases q with rfl | rfl | rfl | rfl | rfl
    · exact ⟨_, hz, fun v q => nomatch q⟩
    · exact ⟨_, hI, fun v q => nomatch q⟩
    · exact ⟨_, hO, fun v q => nomatch q⟩
    · exact ⟨o1, e1, fun v q => by rw [d1] at q; cases q⟩
    · exact ⟨o2, e2, fun v q => by rw [d2] at q; cases q⟩
  keep := fun i h h' st k => st.mono k
  item := by
    intro X hP hw hK hc i pins s σ H E I hf st hg
    subst hP hw hK
    obtain ⟨hi, hqa, hqb⟩ := hg
    obtain ⟨us, ru, pl, _⟩ := I.list hqa
    obtain ⟨ws, rw', pt, _⟩ := I.tuple (SqT.of hqb)
    have nb : ∀ c ∈ [z, TI, TO, i1, i2], c ≠ b := fun c hm e => by
      have q := (hf c hm).1
      rw [e, hqb] at q
      cases q
    have hh : X.A.in1.handled = none := I.ok.hd hc
    have S := zsep st pl.isList pt hTT (nb TI (by simp)) (nb TO (by simp))
    have l1 : us.toArray.size = xs.length := by rw [List.size_toArray]; exact ru.length.symm
    have l2 : ws.toArray.size = ys.length := by rw [List.size_toArray]; exact rw'.length.symm
    have nia : a ≠ i1 := fun e => S.sep2_1 (by
      obtain ⟨o1, e1, c1, _⟩ := st.h1
      obtain ⟨ol, el, cl, _⟩ := pl.isList
      exact absurd e (cls_apart el e1 cl c1 (by decide)))
    have W := WalksT.zipD2 S (Draws.list (prog := X.prog) (w := X.w) hh i1 a nia us.toArray) (Draws.tuple (prog := X.prog) (w := X.w) hh i2 b (fun e => nb i2 (by simp) e.symm) ws.toArray)
    refine W.item i s _ _ (by rw [l1, l2]; exact hi) ⟨st.hz, st.hI, st.hO, ⟨st.h1, pl.isList⟩, ⟨st.h2, pt⟩⟩ fun T vals h' tk hv hTs hT mid kp => ?_
    obtain ⟨u1, u2, e1, e2, rfl⟩ := hv
    have midT := W.apart i T h' mid
    refine ⟨_, rfl, W.go elts kk tpos i T { s with heap := h', toks := tk } _ _ mid fun h'' st'' kp' => ?_⟩
    have hx : us[i]? = some u1 := by simpa using e1
    have hy : ws[i]? = some u2 := by simpa using e2
    have hi1 : i < xs.length := Nat.lt_of_lt_of_le hi (Nat.min_le_left _ _)
    have hi2 : i < ys.length := Nat.lt_of_lt_of_le hi (Nat.min_le_right _ _)
    obtain ⟨v1, hv1, r1⟩ := ru.get (List.getElem?_eq_getElem hi1)
    obtain ⟨v2, hv2, r2⟩ := rw'.get (List.getElem?_eq_getElem hi2)
    rw [hx] at hv1
    rw [hy] at hv2
    cases hv1
    cases hv2
    obtain ⟨oT, hoT, cT, nT, dT⟩ := hT
    have hT2 : h''.get? T = some oT := kp' T oT midT hoT
    have new : ObjOk X.prog X.w (upd H T (.tup [xs[i], ys[i]])) h'' T (.tup [xs[i], ys[i]]) :=
      ⟨by show 2 ≤ sizeLine; decide, [u1, u2], .cons r1 (.cons r2 .nil), ⟨oT, hT2, cT, nT, dT⟩⟩
    have sub : ∀ c, c ∈ [z, TO, i1, i2] → c ∈ [z, TI, TO, i1, i2] := fun c hm => by
      rcases List.mem_cons.mp hm with rfl | hm
      · simp
      · exact List.mem_cons_of_mem _ (List.mem_cons_of_mem _ hm)
    have I1 := I.turnedNew (t' := tk) (ch := [z, TI, TO, i1, i2]) (fun c o hb q => kp' c o (fun m => hb (sub c m)) (kp c o (fun m => hb (sub c m)) q)) hf hTs new
    obtain ⟨q1, q2, q3, q4, q5⟩ := st''
    refine ⟨.ref T, _, I1, rfl, ⟨T, _, _, rfl, I.hok.fresh hTs, rfl, List.getElem?_eq_getElem hi1, List.getElem?_eq_getElem hi2⟩, ⟨q1, q2, q3, q4.1, q5.1⟩, fun c hm => ?_⟩
    have hlt : c < s.heap.objs.size := by
      obtain ⟨hz, hI, ⟨x, y, hO⟩, ⟨o1, e1, _, _⟩, ⟨o2, e2, _, _⟩⟩ := st
      have q : c = z ∨ c = TI ∨ c = TO ∨ c = i1 ∨ c = i2 := by simpa using hm
      rcases q with rfl | rfl | rfl | rfl | rfl
      · exact Heap.lt_size hz
      · exact Heap.lt_size hI
      · exact Heap.lt_size hO
      · exact Heap.lt_size e1
      · exact Heap.lt_size e2
    rw [upd_ne (Nat.ne_of_lt (Nat.lt_of_lt_of_le hlt hTs))]
    exact (hf c hm).1
  done := by
    intro X hP hw hK hc i pins s σ H E I hf st hg
    subst hP hw hK
    obtain ⟨rfl, hqa, hqb⟩ := hg
    obtain ⟨us, ru, pl, _⟩ := I.list hqa
    obtain ⟨ws, rw', pt, _⟩ := I.tuple (SqT.of hqb)
    have nb : ∀ c ∈ [z, TI, TO, i1, i2], c ≠ b := fun c hm e => by
      have q := (hf c hm).1
      rw [e, hqb] at q
      cases q
    have hh : X.A.in1.handled = none := I.ok.hd hc
    have S := zsep st pl.isList pt hTT (nb TI (by simp)) (nb TO (by simp))
    have l1 : us.toArray.size = xs.length := by rw [List.size_toArray]; exact ru.length.symm
    have l2 : ws.toArray.size = ys.length := by rw [List.size_toArray]; exact rw'.length.symm
    have nia : a ≠ i1 := by
      obtain ⟨o1, e1, c1, _⟩ := st.h1
      obtain ⟨ol, el, cl, _⟩ := pl.isList
      exact cls_apart el e1 cl c1 (by decide)
    have W := WalksT.zipD2 S (Draws.list (prog := X.prog) (w := X.w) hh i1 a nia us.toArray) (Draws.tuple (prog := X.prog) (w := X.w) hh i2 b (fun e => nb i2 (by simp) e.symm) ws.toArray)
    have stN : ZS z TI TO i1 i2 a b (min us.toArray.size ws.toArray.size) s.heap := by rw [l1, l2]; exact st
    refine W.done s _ _ ⟨stN.hz, stN.hI, stN.hO, ⟨stN.h1, pl.isList⟩, ⟨stN.h2, pt⟩⟩ fun h' tk kp => ⟨rfl, I.turnedL (t' := tk) (ch := [z, TI, TO, i1, i2]) (fun c o hb q => kp c o (fun m => hb ?_) q) hf⟩
    rcases List.mem_cons.mp m with rfl | m
    · simp
    · exact List.mem_cons_of_mem _ (List.mem_cons_of_mem _ m)
  self := fun A i s Q E st h => wpAny_pyIter_zip st.hz h
def iZipLT (K : PySem.W.Frag) (ta : TA) : TI := fun σ H R => ta σ H fun vs H1 => ∃ a b xs ys, vs = [.ref a, .ref b] ∧ SqL K H1 a xs ∧ H1 b = some (.tup ys) ∧ R (ItZ K a b xs ys) H1
theorem pi_zipLT {X : Cx} {e e2 : Expr} {ta : TA} {p pos : Pos} (hg : Gl X "zip") (hm : X.mg "zip" = none) (ha : PA X [e, e2] ta)
    (hs : starEach [e, e2] X.env = (false, eval e X.env) :: starEach [e2] X.env := by rfl) (hpl : (backTo pos (starEach [e2] X.env)).any (·.1) = false := by rfl) :
    PI X (.Tuple elts kk tpos) (.Call (.Name "zip" p) [e, e2] [] pos) (iZipLT X.K ta) := by
  refine ⟨fun pins s σ H R I h => Call_ (ld_blt I hg hm PyProof.Rows.boot_zip (PyProof.Rows.callWith_type1 (thn (ha.run pos pins s σ H _ I h) fun us s1 q1 => ?_) hs hpl))⟩
  obtain ⟨vs, H1, I1, r1, a, b, xs, ys, rfl, hqa, hqb, q⟩ := q1
  obtain ⟨u1, u2, rfl, ra, rb⟩ := vals2 r1
  cases ra
  cases rb
  obtain ⟨us, ru, pl, _⟩ := I1.list hqa
  obtain ⟨ws, rw', pt, _⟩ := I1.tuple (SqT.of hqb)
  refine zip_begins2 (begins_list a us.toArray) (begins_tuple b ws.toArray) pl.isList pt fun h' hz hI hO g1 g2 hsz hk => wpAny_pyIter_zip hz ?_
  have I2 : Inv X pins σ H1 { s1 with heap := h' } := I1.kept (t' := s1.toks) hk
  refine ⟨s1.heap.objs.size + 4, [s1.heap.objs.size + 4, s1.heap.objs.size + 2, s1.heap.objs.size + 3, s1.heap.objs.size, s1.heap.objs.size + 1], _, _, H1, rfl, I2,
    turnZip a b xs ys (show (s1.heap.objs.size + 2 : Nat) ≠ s1.heap.objs.size + 3 by omega), ⟨hz, hI, ⟨_, _, hO⟩, ⟨_, g1, rfl, rfl⟩, ⟨_, g2, rfl, rfl⟩⟩, fun c hm => ?_, q⟩
  have hle : s1.heap.objs.size ≤ c := by
    have q : c = s1.heap.objs.size + 4 ∨ c = s1.heap.objs.size + 2 ∨ c = s1.heap.objs.size + 3 ∨ c = s1.heap.objs.size ∨ c = s1.heap.objs.size + 1 := by simpa using hm
    have : s1.heap.objs.size ≤ (c : Nat) := by rcases q with q | q | q | q | q <;> (rw [q]; first | exact Nat.le_refl _ | exact Nat.le_add_right _ _)
    exact this
  exact I1.fpOk hle (I1.hok.fresh hle)
end
end Cp
end

section
set_option Elab.async false
set_option linter.all false
set_option maxRecDepth 100000
set_option maxHeartbeats 4000000
/-! dicts whose keys are tuples of ints, Nones and such tuples -/
namespace Cp
open PySem PySem.Spec PyProof.Rows L2
abbrev Sl := L2.St

mutual
/-- the value v is the key k -/
inductive NK (H : Hp) : V → NestedKey → Prop where
  | non : NK H .non .none
  | int (i : Int) : NK H (.int i) (.num i)
  | tup {a : Addr} {xs : List V} {ks : List NestedKey} : H a = some (.tup xs) → NKs H xs ks → NK H (.ref a) (.tup ks)
inductive NKs (H : Hp) : List V → List NestedKey → Prop where
  | nil : NKs H [] []
  | cons {v : V} {vs : List V} {d : NestedKey} {ds : List NestedKey} : NK H v d → NKs H vs ds → NKs H (v :: vs) (d :: ds)
end
section
variable {H H' : Hp}
mutual
theorem NK.tu (t : Tu H H') : ∀ {v : V} {k : NestedKey}, NK H v k → NK H' v k
  | _, _, .non => .non
  | _, _, .int i => .int i
  | _, _, .tup e r => .tup (t _ _ e) (NKs.tu t r)
theorem NKs.tu (t : Tu H H') : ∀ {v : List V} {k : List NestedKey}, NKs H v k → NKs H' v k
  | _, _, .nil => .nil
  | _, _, .cons h r => .cons (NK.tu t h) (NKs.tu t r)
end
mutual
theorem NK.is {P : Program} {w : World} {h : Heap} (ok : HOk P w H h) : ∀ {v : V} {k : NestedKey} {u : Value}, NK H v k → RelV v u → NestedIs h k u
  | _, _, _, .non, r => by cases r; exact .none
  | _, _, _, .int i, r => by obtain ⟨t, rfl⟩ := r; exact .int i t
  | _, _, _, .tup e q, r => by
    cases r
    obtain ⟨_, its, rv, o, ho, hc, n, hd⟩ := ok _ _ e
    exact .tup ho hc hd (by simpa using NKs.is ok q rv)
theorem NKs.is {P : Program} {w : World} {h : Heap} (ok : HOk P w H h) : ∀ {vs : List V} {ks : List NestedKey} {us : List Value}, NKs H vs ks → Vals vs us → NestedAll h ks us
  | _, _, _, .nil, .nil => .nil
  | _, _, _, .cons h q, .cons r s => .cons (NK.is ok h r) (NKs.is ok q s)
end
theorem nks_o (s : List (Option Int)) : NKs H (s.map vO) (s.map fun x => match x with | none => .none | some i => .num i) := by
  induction s with
  | nil => exact .nil
  | cons x r ih =>
    refine .cons ?_ ih
    cases x with
    | none => exact .non
    | some i => exact .int i
end

/-! ### the dict -/
section
variable (P : Program) (w : World)
def dnO (a : Addr) (xs : List (NestedKey × Addr × Value)) : HO := .ext fun h => (a == sysModules) = false ∧ xs.length ≤ sizeLine ∧
  ∃ o es ep, h.get? a = some o ∧ o.ExactDict ∧ o.data = .dict es ep ∧ es.toList = xs.map (entryOfKey (nestedKind P w)) ∧ (xs.map (·.1)).Nodup
/-- at a stands such a dict with the pairs kvs -/
def DN (H : Hp) (a : Addr) (kvs : List (NestedKey × V)) : Prop := ∃ xs, H a = some (dnO P w a xs) ∧
  Paired (fun (p : NestedKey × V) (q : NestedKey × Addr × Value) => p.1 = q.1 ∧ NK H (.ref q.2.1) p.1 ∧ p.1.depth ≤ 8 ∧ RelV p.2 q.2.2) kvs xs
def lookN (kvs : List (NestedKey × V)) (k : NestedKey) : Option V := (kvs.find? fun p => decide (p.1 = k)).map (·.2)
def putN (kvs : List (NestedKey × V)) (k : NestedKey) (v : V) : List (NestedKey × V) := if (lookN kvs k).isSome then kvs.map (fun p => if p.1 = k then (p.1, v) else p) else kvs ++ [(k, v)]
end
section
variable {P : Program} {w : World} {H H' : Hp} {h h' : Heap} {a : Addr} {kvs : List (NestedKey × V)}
theorem pair_mapP {α β : Type} {F G : α → β → Prop} : ∀ {l : List α} {m : List β}, Paired F l m → (∀ a b, F a b → G a b) → Paired G l m
  | _, _, .nil, _ => .nil
  | _, _, .cons r t, f => .cons (f _ _ r) (pair_mapP t f)
theorem DN.mono (d : DN P w H a kvs) (t : Tu H H') (e : H' a = H a) : DN P w H' a kvs := by
  obtain ⟨xs, h1, h2⟩ := d
  exact ⟨xs, e.trans h1, pair_mapP h2 fun p q z => ⟨z.1, z.2.1.tu t, z.2.2⟩⟩
theorem DN.ex (d : DN P w H a kvs) (e : Ex H H') : DN P w H' a kvs := by
  obtain ⟨xs, h1, h2⟩ := id d
  exact d.mono e.tu ((e _ _ h1).trans h1.symm)
theorem DN.tu (d : DN P w H a kvs) (o : HO) : Tu H (upd H a o) := by
  obtain ⟨xs, h1, _⟩ := d
  exact Tu.ext h1
theorem DN.has (d : DN P w H a kvs) : ∃ φ, H a = some (.ext φ) := by
  obtain ⟨xs, h1, _⟩ := d
  exact ⟨_, h1⟩
theorem Paired.memR {α β : Type} {F : α → β → Prop} : ∀ {l : List α} {m : List β}, Paired F l m → ∀ y ∈ m, ∃ x ∈ l, F x y
  | _, _, .nil, y, hy => by simp at hy
  | _, _, .cons f r, y, hy => by
    rcases List.mem_cons.mp hy with rfl | hy
    · exact ⟨_, List.mem_cons_self .., f⟩
    · obtain ⟨x, hx, q⟩ := memR r y hy
      exact ⟨x, List.mem_cons_of_mem _ hx, q⟩
theorem DN.dict (d : DN P w H a kvs) (ok : HOk P w H h) : ∃ xs, H a = some (dnO P w a xs) ∧ (a == sysModules) = false ∧ xs.length ≤ sizeLine ∧ h.DictOfH (nestedKind P w) a xs ∧
    Paired (fun (p : NestedKey × V) (q : NestedKey × Addr × Value) => p.1 = q.1 ∧ NK H (.ref q.2.1) p.1 ∧ p.1.depth ≤ 8 ∧ RelV p.2 q.2.2) kvs xs := by
  obtain ⟨xs, h1, h2⟩ := d
  obtain ⟨⟨z1, z2, o, es, ep, ho, hx, hd, he, hn⟩, _, _⟩ := ok _ _ h1
  refine ⟨xs, h1, z1, z2, ⟨o, es, ep, ho, hx, hd, he, fun x hm => ?_, hn⟩, h2⟩
  obtain ⟨p, _, e, nk, dp, _⟩ := Paired.memR h2 x hm
  rw [← e]
  exact ⟨nk.is ok rfl, dp⟩
theorem dn_ok {xs : List (NestedKey × Addr × Value)} (z1 : (a == sysModules) = false) (z2 : xs.length ≤ sizeLine) (d : h.DictOfH (nestedKind P w) a xs) : ObjOk P w H h a (dnO P w a xs) := by
  obtain ⟨o, es, ep, ho, hx, hd, he, _, hn⟩ := d
  exact ⟨⟨z1, z2, o, es, ep, ho, hx, hd, he, hn⟩, ⟨o, ho⟩, fun h1 h2 ⟨z1, z2, o, es, ep, ho, r⟩ k => ⟨z1, z2, o, es, ep, k o ho, r⟩⟩
theorem find_pair {F : V → Value → Prop} {k : NestedKey} : ∀ {kvs : List (NestedKey × V)} {xs : List (NestedKey × Addr × Value)}, Paired (fun (p : NestedKey × V) (q : NestedKey × Addr × Value) => p.1 = q.1 ∧ F p.2 q.2.2) kvs xs →
    (∀ v, lookN kvs k = Option.some v → ∃ b r, atKey xs k = Option.some (b, r) ∧ F v r) ∧ (lookN kvs k = none → atKey xs k = none)
  | _, _, .nil => ⟨fun v e => by simp [lookN] at e, fun _ => rfl⟩
  | _, _, .cons (a := p) (b := q) f r => by
    obtain ⟨h1, h2⟩ := find_pair (k := k) r
    obtain ⟨e1, e2⟩ := f
    by_cases c : p.1 = k
    · have c' : q.1 = k := e1 ▸ c
      refine ⟨fun v e => ⟨q.2.1, q.2.2, ?_, ?_⟩, fun e => ?_⟩
      · simp [atKey, List.find?_cons, c']
      · simp [lookN, List.find?_cons, c] at e
        rw [← e]
        exact e2
      · simp [lookN, List.find?_cons, c] at e
    · have c' : ¬ q.1 = k := e1 ▸ c
      refine ⟨fun v e => ?_, fun e => ?_⟩
      · obtain ⟨b, r', q1, q2⟩ := h1 v (by simpa [lookN, List.find?_cons, c] using e)
        exact ⟨b, r', by simpa [atKey, List.find?_cons, c'] using q1, q2⟩
      · have := h2 (by simpa [lookN, List.find?_cons, c] using e)
        simpa [atKey, List.find?_cons, c'] using this
theorem rel_look {xs : List (NestedKey × Addr × Value)} (r : Paired (fun (p : NestedKey × V) (q : NestedKey × Addr × Value) => p.1 = q.1 ∧ NK H (.ref q.2.1) p.1 ∧ p.1.depth ≤ 8 ∧ RelV p.2 q.2.2) kvs xs) (k : NestedKey) :
    (∀ v, lookN kvs k = Option.some v → ∃ b r, atKey xs k = Option.some (b, r) ∧ RelV v r) ∧ (lookN kvs k = none → atKey xs k = none) := find_pair (F := RelV) (pair_mapP r fun p q z => ⟨z.1, z.2.2.2⟩)
theorem look_some {xs : List (NestedKey × Addr × Value)} (r : Paired (fun (p : NestedKey × V) (q : NestedKey × Addr × Value) => p.1 = q.1 ∧ NK H (.ref q.2.1) p.1 ∧ p.1.depth ≤ 8 ∧ RelV p.2 q.2.2) kvs xs) (k : NestedKey) : (atKey xs k).isSome = (lookN kvs k).isSome := by
  obtain ⟨h1, h2⟩ := rel_look r k
  cases e : lookN kvs k with
  | none => rw [h2 e]; rfl
  | some v =>
    obtain ⟨b, r', q, _⟩ := h1 v e
    rw [q]
    rfl
theorem pair_map {F G : NestedKey × V → NestedKey × Addr × Value → Prop} {f : NestedKey × V → NestedKey × V} {g : NestedKey × Addr × Value → NestedKey × Addr × Value} (hfg : ∀ p q, F p q → G (f p) (g q)) :
    ∀ {l : List (NestedKey × V)} {m : List (NestedKey × Addr × Value)}, Paired F l m → Paired G (l.map f) (m.map g)
  | _, _, .nil => .nil
  | _, _, .cons h r => .cons (hfg _ _ h) (pair_map hfg r)
theorem pair_snoc {F : NestedKey × V → NestedKey × Addr × Value → Prop} : ∀ {l : List (NestedKey × V)} {m : List (NestedKey × Addr × Value)} {p q}, Paired F l m → F p q → Paired F (l ++ [p]) (m ++ [q])
  | _, _, _, _, .nil, h => .cons h .nil
  | _, _, _, _, .cons f r, h => .cons f (pair_snoc r h)
/-- behind a store -/
theorem rel_put {xs : List (NestedKey × Addr × Value)} {k : NestedKey} {b : Addr} {v : V} {r : Value} (rel : Paired (fun (p : NestedKey × V) (q : NestedKey × Addr × Value) => p.1 = q.1 ∧ NK H (.ref q.2.1) p.1 ∧ p.1.depth ≤ 8 ∧ RelV p.2 q.2.2) kvs xs)
    (nk : NK H (.ref b) k) (dp : k.depth ≤ 8) (rv : RelV v r) : Paired (fun (p : NestedKey × V) (q : NestedKey × Addr × Value) => p.1 = q.1 ∧ NK H (.ref q.2.1) p.1 ∧ p.1.depth ≤ 8 ∧ RelV p.2 q.2.2) (putN kvs k v) (storedH xs k b r) := by
  unfold putN storedH
  rw [look_some rel k]
  by_cases c : (lookN kvs k).isSome = true
  · rw [if_pos c, if_pos c]
    refine pair_map (fun p q z => ?_) rel
    unfold putAt
    by_cases e : p.1 = k
    · rw [if_pos e, if_pos (z.1 ▸ e)]
      exact ⟨z.1, z.2.1, z.2.2.1, rv⟩
    · rw [if_neg e, if_neg (z.1 ▸ e)]
      exact z
  · rw [if_neg c, if_neg c]
    exact pair_snoc rel ⟨rfl, nk, dp, rv⟩
theorem putN_len (kvs : List (NestedKey × V)) (k : NestedKey) (v : V) : (putN kvs k v).length ≤ kvs.length + 1 := by
  unfold putN
  split <;> simp
theorem stored_len (xs : List (NestedKey × Addr × Value)) (k : NestedKey) (b : Addr) (r : Value) : (storedH xs k b r).length ≤ xs.length + 1 := by
  unfold storedH
  split <;> simp
end

/-! ### rules -/
section
variable {X : Cx} {pins : List (Addr × Obj)} {σ : L2.St} {H : Hp} {s : Shared} {A : Around} {E : Value → Shared → Prop} {a b : Addr} {kvs : List (NestedKey × V)} {k : NestedKey} {v : V} {r : Value}
theorem n_key (I : Inv X pins σ H s) (nk : NK H (.ref b) k) (dp : k.depth ≤ 8) : (nestedKind X.prog X.w).is s.heap k b := ⟨nk.is I.hok rfl, dp⟩
/-- what a store leaves -/
theorem n_stored (I : Inv X pins σ H s) (d : DN X.prog X.w H a kvs) (hl : kvs.length < sizeLine) (nk : NK H (.ref b) k) (dp : k.depth ≤ 8) (rv : RelV v r) :
    ∃ xs, s.heap.DictOfH (nestedKind X.prog X.w) a xs ∧ xs.length ≤ sizeLine ∧ (a == sysModules) = false ∧ (atKey xs k).isSome = (lookN kvs k).isSome ∧ (∀ v, lookN kvs k = some v → ∃ b r, atKey xs k = some (b, r) ∧ RelV v r) ∧ (lookN kvs k = none → atKey xs k = none) ∧
      ∀ (h' : Heap) (t' : Nat), h'.DictOfH (nestedKind X.prog X.w) a (storedH xs k b r) → Heap.SameBut a s.heap h' → ∃ H', (∀ c, c ≠ a → H' c = H c) ∧ DN X.prog X.w H' a (putN kvs k v) ∧ Inv X pins σ H' { s with heap := h', toks := t' } := by
  obtain ⟨xs, e, z1, z2, dd, rel⟩ := d.dict I.hok
  have len : kvs.length = xs.length := Paired.length rel
  refine ⟨xs, dd, z2, z1, look_some rel k, (rel_look rel k).1, (rel_look rel k).2, fun h' t' d' sb => ?_⟩
  have z3 : (storedH xs k b r).length ≤ sizeLine := by have := stored_len xs k b r; omega
  have he : ∃ q, h'.get? a = some q := let ⟨q, _, _, hq, _⟩ := d'; ⟨q, hq⟩
  have t : Tu H (upd H a (dnO X.prog X.w a (storedH xs k b r))) := d.tu _
  refine ⟨upd H a (dnO X.prog X.w a (storedH xs k b r)), fun c hc => upd_ne hc, ⟨_, upd_same, pair_mapP (rel_put rel nk dp rv) fun p q z => ⟨z.1, z.2.1.tu t, z.2.2⟩⟩, ?_⟩
  exact I.write (e := a) (by rw [e]; trivial) (.inl rfl) (fun c u hc hu => (sb.2 c hc).trans hu) he (dn_ok z1 z3 d')
/-- a key of tuples -/
def IsK (H : Hp) (y : V) (b : Addr) (k : NestedKey) : Prop := y = .ref b ∧ NK H y k ∧ k.depth ≤ 8
def rInN (P : Program) (w : World) : R2 := fun x y H Q => ∃ b k a kvs, IsK H x b k ∧ y = .ref a ∧ DN P w H a kvs ∧ Q (.bl (lookN kvs k).isSome) H
def rNotInN (P : Program) (w : World) : R2 := fun x y H Q => ∃ b k a kvs, IsK H x b k ∧ y = .ref a ∧ DN P w H a kvs ∧ Q (.bl (!(lookN kvs k).isSome)) H
theorem op_inN (hu : X.A.units + 9 < cLine) : OpR X (compareOp .In) (rInN X.prog X.w) := by
  intro pins s σ H x y v u Q I rx ry h
  obtain ⟨b, k, a, kvs, ⟨rfl, nk, dp⟩, rfl, d, q⟩ := h
  cases rx
  cases ry
  obtain ⟨xs, e, z1, z2, dd, rel⟩ := d.dict I.hok
  refine in_keyed (knd := nestedKind X.prog X.w) (by show X.A.units + 1 + 8 < cLine; omega) (n_key I nk dp) z1 ⟨xs, dd, rfl⟩ ⟨.bl _, H, I.tok _, ?_, q⟩
  rw [valueAt_pairsH, Option.isSome_map, look_some rel]
  rfl
theorem op_notinN (hu : X.A.units + 9 < cLine) : OpR X (compareOp .NotIn) (rNotInN X.prog X.w) := by
  intro pins s σ H x y v u Q I rx ry h
  obtain ⟨b, k, a, kvs, ⟨rfl, nk, dp⟩, rfl, d, q⟩ := h
  cases rx
  cases ry
  obtain ⟨xs, e, z1, z2, dd, rel⟩ := d.dict I.hok
  refine notIn_keyed (knd := nestedKind X.prog X.w) (by show X.A.units + 1 + 8 < cLine; omega) (n_key I nk dp) z1 ⟨xs, dd, rfl⟩ ⟨.bl _, H, I.tok _, ?_, q⟩
  rw [valueAt_pairsH, Option.isSome_map, look_some rel]
  rfl
theorem call_lenN : CallR X (.builtin "len") (fun xs H Q => ∃ a kvs, xs = [V.ref a] ∧ DN X.prog X.w H a kvs ∧ Q (.int (kvs.length : Nat)) H) := by
  intro pins s σ H xs us Q I r h
  obtain ⟨a, kvs, rfl, d, q⟩ := h
  obtain ⟨u, rfl, ru⟩ := vals1 r
  cases ru
  obtain ⟨xs, e, z1, z2, dd, rel⟩ := d.dict I.hok
  have len : kvs.length = xs.length := Paired.length rel
  refine call_len_dictH (knd := nestedKind X.prog X.w) z1 dd ?_ ⟨.int (kvs.length : Nat), H, I.tok _, ⟨_, by rw [len]⟩, q⟩
  have : (sizeLine : Int) < 2 ^ 63 := by decide
  omega
variable {o i e f value : Expr} {pos pos' apos cpos : Pos} {td ty tv tx : TE}
def tNGet (P : Program) (w : World) (td ty : TE) : TE := fun σ H Q => td σ H fun x H1 => ty σ H1 fun y H2 => ∃ a b k kvs v, x = .ref a ∧ IsK H2 y b k ∧ DN P w H2 a kvs ∧ lookN kvs k = some v ∧ Q v H2
theorem pe_nget (hu : X.A.units + 9 < cLine) (ho : PE X o td) (hi : PE X i ty) (hs : NoSl i) : PE X (.Subscript o i pos) (tNGet X.prog X.w td ty) := by
  refine ⟨fun pins s σ H Q I h => ?_⟩
  refine subD_of PySem.F.slot_dict_getitem.lookup hs (thn (ho.run pins s σ H _ I h) fun u s1 ⟨x, H1, I1, rx, q1⟩ => thn (hi.run pins s1 σ H1 _ I1 q1) fun iv s2 ⟨y, H2, I2, ry, a, b, k, kvs, v, ex, ⟨ey, nk, dp⟩, d, lk, q2⟩ => ?_)
  subst ex
  subst ey
  cases rx
  cases ry
  obtain ⟨xs, e, z1, z2, dd, rel⟩ := d.dict I2.hok
  obtain ⟨b', r', hat, rv⟩ := (rel_look rel k).1 v lk
  refine ⟨dd.typeIs, getItem_keyed (knd := nestedKind X.prog X.w) (by show X.A.units + 1 + 8 < cLine; omega) (n_key I2 nk dp) ⟨xs, dd, rfl⟩ (v := r') (by rw [valueAt_pairsH, hat]; rfl) ⟨v, H2, I2.tok _, rv, q2⟩⟩
/-- d[y] = v -/
def sNPut (P : Program) (w : World) (td ty tv : TE) : TS := fun D σ H => tv σ H fun v H1 => td σ H1 fun x H2 => ty σ H2 fun y H3 => ∃ a b k kvs, x = .ref a ∧ IsK H3 y b k ∧ DN P w H3 a kvs ∧ kvs.length < sizeLine ∧
  ∀ H4, (∀ c, c ≠ a → H4 c = H3 c) → DN P w H4 a (putN kvs k v) → D.nx σ H4
theorem ps_nput (hu : X.A.units + 9 < cLine) (ho : PE X o td) (hi : PE X i ty) (hv : PE X value tv) (hs : swapsWith value (some (.Subscript o i pos')) pos.line X.env = pure false) :
    PS X (.Assign [.Subscript o i pos'] value pos) (sNPut X.prog X.w td ty tv) := by
  refine ⟨fun pins s σ H D I h => ?_⟩
  refine wpAny_Assign_Subscript (thn (hv.run pins s σ H _ I h) fun r s1 ⟨v, H1, I1, rv, q1⟩ => thn (ho.run pins s1 σ H1 _ I1 q1) fun u s2 ⟨x, H2, I2, rx, q2⟩ => thn (hi.run pins s2 σ H2 _ I2 q2) fun iv s3 ⟨y, H3, I3, ry, a, b, k, kvs, ex, ⟨ey, nk, dp⟩, d, hl, q3⟩ => ?_) hs
  subst ex
  subst ey
  cases rx
  cases ry
  obtain ⟨xs, dd, z2, z1, _, _, _, fin⟩ := n_stored I3 d hl nk dp rv
  refine wpAny_setItem_heap (hsz := z2) (knd := nestedKind X.prog X.w) (by show X.A.units + 1 + 8 < cLine; omega) (n_key I3 nk dp) dd fun h' d' sb => ?_
  obtain ⟨H4, e4, dn4, I4⟩ := fin h' _ d' sb
  exact ⟨σ, H4, I4, q3 H4 e4 dn4⟩
/-- d.setdefault(y, z) -/
def tNSetd (P : Program) (w : World) (td ty tx : TE) : TE := fun σ H Q => td σ H fun x H1 => ∃ a, x = .ref a ∧ (∃ kvs, DN P w H1 a kvs) ∧ ty σ H1 fun y H2 => tx σ H2 fun z H3 => ∃ b k kvs, IsK H3 y b k ∧ DN P w H3 a kvs ∧ kvs.length < sizeLine ∧
  (∀ v, lookN kvs k = some v → Q v H3) ∧ (lookN kvs k = none → ∀ H4, (∀ c, c ≠ a → H4 c = H3 c) → DN P w H4 a (putN kvs k z) → Q z H4)
theorem pe_nsetd (hu : X.A.units + 9 < cLine) (ho : PE X o td) (he : PE X e ty) (hf : PE X f tx) (m : M2 X o "setdefault" apos e f cpos) : PE X (.Call (.Attribute o "setdefault" apos) [e, f] [] cpos) (tNSetd X.prog X.w td ty tx) := by
  refine ⟨fun pins s σ H Q I h => ?_⟩
  refine wpAny_Call_method m.base m.few m.line PySem.F.plainAttrs_dict PySem.F.slot_dict_setdefault PySem.F.type_dict_setdefault (thn (ho.run pins s σ H _ I h) fun u s1 ⟨x, H1, I1, rx, a, ex, ⟨kv0, d0⟩, q1⟩ => ?_)
  subst ex
  cases rx
  obtain ⟨xs0, _, _, _, ⟨o0, es0, ep0, ho0, hx0, hd0, r0⟩, _⟩ := d0.dict I1.hok
  refine ⟨⟨o0, ho0, hx0.1⟩, fun b e => by cases e; exact ⟨o0, ho0, hx0.2.1⟩, ?_⟩
  rw [m.trees]
  refine Calls.callWith_builtin rfl (Calls.evalArgs_plain (Calls.spliced_cons (thn (he.run pins s1 σ H1 _ I1 q1) fun iv s2 ⟨y, H2, I2, ry, q2⟩ =>
    Calls.spliced_cons (thn (hf.run pins s2 σ H2 _ I2 q2) fun fv s3 ⟨z, H3, I3, rz, b, k, kvs, ⟨ey, nk, dp⟩, d, hl, q3, q4⟩ => Calls.spliced_nil ?_))))
  subst ey
  cases ry
  obtain ⟨xs, dd, z2, z1, _, l1, l2, fin⟩ := n_stored I3 d hl nk dp rz
  refine call_setdefault_heap (hsz := z2) (knd := nestedKind X.prog X.w) (by show X.A.units + 1 + 8 < cLine; omega) (n_key I3 nk dp) z1 dd (fun p hp => ?_) fun hn h' d' sb => ?_
  · cases q : lookN kvs k with
    | none =>
      rw [l2 q] at hp
      cases hp
    | some v0 =>
      obtain ⟨b', r', hat, rv⟩ := l1 v0 q
      rw [hp] at hat
      cases hat
      exact ⟨v0, H3, I3.tok _, rv, q3 v0 q⟩
  · have q : lookN kvs k = none := by
      cases q : lookN kvs k with
      | none => rfl
      | some v0 =>
        obtain ⟨b', r', hat, _⟩ := l1 v0 q
        rw [hn] at hat
        cases hat
    obtain ⟨H4, e4, dn4, I4⟩ := fin h' _ d' sb
    exact ⟨z, H4, I4, rz, q4 q H4 e4 dn4⟩
/-- {} -/
def tNNew (P : Program) (w : World) : TE := fun _ H Q => ∀ p, H p = none → Q (.ref p) (upd H p (dnO P w p []))
theorem dn_empty {P : Program} {w : World} {H : Hp} (h : Heap) (hb : sysModules < h.objs.size) : ObjOk P w H (h.push { cls := .type "dict", data := .dict #[] }) h.objs.size (dnO P w h.objs.size []) :=
  dn_ok (beq_eq_false_iff_ne.mpr (Ne.symm (Nat.ne_of_lt hb))) (Nat.zero_le _) (Heap.DictOfH.new h)
theorem dn_new {P : Program} {w : World} {H : Hp} {p : Addr} (e : H p = some (dnO P w p [])) : DN P w H p [] := ⟨[], e, .nil⟩
theorem pe_nnew : PE X (.Dict [] [] pos) (tNNew X.prog X.w) := ⟨fun pins s σ H Q I h =>
  wpAny_Dict_empty ⟨.ref s.heap.objs.size, _, I.laid (a := s.heap.objs.size) (t' := s.toks) (fun _ _ q => Heap.get?_push_of_some _ q) (Nat.le_refl _) (dn_empty s.heap I.big), rfl, h _ (I.hok.fresh (Nat.le_refl _))⟩⟩
end
theorem hu9 {k : Nat} {A : Around} (r : Room k A) : A.units + 9 < cLine := by have := r.un; omega
end Cp
end

section
set_option Elab.async false
set_option linter.all false
set_option maxRecDepth 100000
set_option maxHeartbeats 4000000
/-! a dict comprehension whose keys are tuples -/
namespace Cp
open PySem PySem.Spec PyProof.Rows L2
section
variable {X : Cx}
theorem n_dictSet {pins : List (Addr × Obj)} {σ : L2.St} {H : Hp} {s : Shared} {E : Value → Shared → Prop} {D b : Addr} {kvs : List (NestedKey × V)} {k : NestedKey} {v : V} {r : Value} {Q : Unit → Shared → Prop} (hu : X.A.units + 9 < cLine) (I : Inv X pins σ H s)
    (d : DN X.prog X.w H D kvs) (hz : kvs.length < sizeLine) (nk : NK H (.ref b) k) (dp : k.depth ≤ 8) (rv : RelV v r) (h : ∀ H' s', (∀ c, c ≠ D → H' c = H c) → DN X.prog X.w H' D (putN kvs k v) → Inv X pins σ H' s' → Q () s') :
    wpAny (model X.prog X.w) X.A (dictSet D (.ref b) r) Q E s := by
  obtain ⟨xs, dd, z2, z1, _, _, _, fin⟩ := n_stored I d hz nk dp rv
  refine wpAny_dictSet_heap (hsz := z2) (knd := nestedKind X.prog X.w) (by show X.A.units + 8 < cLine; omega) (n_key I nk dp) dd fun h' d' sb => ?_
  obtain ⟨H4, e4, dn4, I4⟩ := fin h' _ d' sb
  exact h H4 _ e4 dn4 I4
/-- {k: v for target in iter if ..}: D the new dict, Nx what a turn is to reach -/
def tDcN (P : Program) (w : World) (wi : TI) (g : TG) (tt : TT) (tk tv : TE) (vs : List Nat) : TE := fun σ H Q => wi σ H fun J H1 => ∀ D, H1 D = none → ∃ W : Nat → Nat → Hp → Prop, (∃ m, W 0 m (upd H1 D (dnO P w D []))) ∧ ∀ i m H, W i m H →
  (J.stop i H ∧ Q (.ref D) H) ∨ (J.go i H ∧ ∃ Nx : Hp → Prop, (∀ H', Nx H' → ∃ m', m' < m ∧ W (i + 1) m' H') ∧ ∀ x H', J.yld i H x H' → g x (wipe σ vs) H' fun σ2 H2 => wipe σ2 vs = wipe σ vs ∧ tt σ2 H2 fun b H3 =>
    if b = true then tk σ2 H3 fun y H4 => tv σ2 H4 fun z H5 => ∃ kvs b k, IsK H5 y b k ∧ DN P w H5 D kvs ∧ kvs.length < sizeLine ∧ (∀ H6, (∀ c, c ≠ D → H6 c = H5 c) → DN P w H6 D (putN kvs k z) → Nx H6) else Nx H3)
theorem dcN_core {pins : List (Addr × Obj)} {s : Shared} {σ : L2.St} {H : Hp} {Q : VK} {kx vx tg iter : Expr} {ifs : List Expr} {scope : Scope} {own : List (Str × Nat)} {pos pos' : Pos} {wi : TI} {g : TG} {tt : TT} {tk tv : TE} {use : Option (Value → Sem Unit)} {Qf : Value → Shared → Prop}
    (hu : X.A.units + 9 < cLine) (hc : X.calm = true) (hN : X.N.Nodup) (I : Inv X pins σ H s) (hi : PI X tg iter wi) (ok : BlkOk X.N X.env.scope scope own)
    (hg : ∀ (s : Shared) (H : Hp) (C : Addr) (cl : List (Str × Addr)) (fp : List Addr), PG (X.blk s H scope (compEnvC scope cl C X.env) fp) tg g)
    (ht : ∀ (s : Shared) (H : Hp) (C : Addr) (cl : List (Str × Addr)) (fp : List Addr), PTs (X.blk s H scope (compEnvC scope cl C X.env) fp) ifs tt)
    (hk : ∀ (s : Shared) (H : Hp) (C : Addr) (cl : List (Str × Addr)) (fp : List Addr), PE (X.blk s H scope (compEnvC scope cl C X.env) fp) kx tk)
    (he : ∀ (s : Shared) (H : Hp) (C : Addr) (cl : List (Str × Addr)) (fp : List Addr), PE (X.blk s H scope (compEnvC scope cl C X.env) fp) vx tv) (hs : ∀ x, foldedSetIterable iter X.env x = pure x)
    (h : tDcN X.prog X.w wi g tt tk tv (own.map (·.2)) σ H Q)
    (hRR : ∀ D C s' m H', Inv X pins σ H' s' → Q (.ref D) H' → s'.heap.Ns C m → FpOk X pins H' C → compPost (model X.prog X.w) X.A X.xe use Qf (.ref D) C (.ok .next) s') :
    wpAny (model X.prog X.w) X.A (comprehension (.DictComp kx vx [⟨tg, iter, ifs, 0⟩] scope pos) scope X.env pos' newDict false (eval iter X.env) use) Qf X.xe s := by
  have free : ∀ y ∈ scope.names, y.2 = .free → ∃ c, X.env.cells.lookup y.1 = some c := fun y hy e => (ok.free y hy e).elim (fun k => I.ok.has _ (.inl k)) fun k => I.ok.has _ (.inr k)
  refine wpAny_comprehension_free (use := use) rfl hs (closure_ok free) ok.kind (fun y hy e => by rw [ok.uniq y hy, e]) (thn (hi.run pins s σ H _ I h) fun xv s1 hx => thn hx fun itv s2 h2 => ?_)
  obtain ⟨it, fp, tn, J, H2, rfl, I2, T, st2, f2, q⟩ := h2
  refine wpAny_newObj_type (newEnv_comp ?_)
  generalize hD : s2.heap.objs.size = D
  obtain ⟨W, ⟨m0, w0⟩, turn⟩ := q D (I2.hok.fresh (Nat.le_of_eq hD))
  -- the empty dict is laid
  generalize e3 : ({ s2 with heap := s2.heap.push { cls := .type "dict", data := .dict #[] } } : Shared) = s3
  have p3 : s3.heap = s2.heap.push { cls := .type "dict", data := .dict #[] } := by rw [← e3]
  have I3 : Inv X pins σ (upd H2 D (dnO X.prog X.w D [])) s3 := by
    rw [← e3, ← hD]
    exact I2.laid (t' := s2.toks) (fun b o e => Heap.get?_push_of_some _ e) (Nat.le_refl _) (dn_empty s2.heap I2.big)
  have below : ∀ b ∈ fp, b < s2.heap.objs.size := fun b hb => let ⟨o, e, _⟩ := T.obj _ _ st2 b hb; Heap.lt_size e
  have f3 : ∀ b ∈ fp, FpOk X pins (upd H2 D (dnO X.prog X.w D [])) b ∧ b < s3.heap.objs.size := fun b hb => by
    have hlt := below b hb
    refine ⟨⟨?_, (f2 b hb).2⟩, by rw [p3, Heap.size_push]; exact Nat.lt_succ_of_lt hlt⟩
    rw [upd_ne (by rw [← hD]; exact Nat.ne_of_lt hlt)]
    exact (f2 b hb).1
  have st3 : tn 0 s3.heap := T.keep _ _ _ st2 fun b _ o e => by rw [p3]; exact Heap.get?_push_of_some _ e
  -- the block's own context
  have I4 := block_start I3 ok hN f3
  generalize eC : cellsFrom (s3.heap.objs.size + 1) scope.names (cloFrom X.env.cells scope.names []) = cl at I4
  show codeAny _ _ (.compStart (.DictComp kx vx [⟨tg, iter, ifs, 0⟩] scope pos) 0 (.ref it) (.ref D) (compEnvC scope cl s3.heap.objs.size X.env)) (compPost (model X.prog X.w) X.A X.xe use Qf (.ref D) s3.heap.objs.size) { s3 with heap := pushCells (s3.heap.push { cls := .type "dict", data := .dict #[] }) scope.names }
  generalize eH : upd H2 D (dnO X.prog X.w D []) = H3 at I3 I4 w0 f3
  have pg := hg s3 H3 s3.heap.objs.size cl fp
  have pt := ht s3 H3 s3.heap.objs.size cl fp
  have pk := hk s3 H3 s3.heap.objs.size cl fp
  have pv := he s3 H3 s3.heap.objs.size cl fp
  generalize e4 : ({ s3 with heap := pushCells (s3.heap.push { cls := .type "dict", data := .dict #[] }) scope.names } : Shared) = s4 at I4 ⊢
  have st4 : tn 0 s4.heap := T.keep _ _ _ st3 fun b _ o e => by rw [← e4]; exact pushCells_keeps _ _ _ _ (Heap.get?_push_of_some _ e)
  generalize eB : X.blk s3 H3 scope (compEnvC scope cl s3.heap.objs.size X.env) fp = B at I4 pg pt pk pv
  have bP : B.prog = X.prog := by rw [← eB]
  have bw : B.w = X.w := by rw [← eB]
  have bK : B.K = X.K := by rw [← eB]
  have bA : B.A = X.A := by rw [← eB]
  have bc : B.calm = true := by rw [← eB]; exact hc
  have bx : B.xe = fun _ _ => False := by rw [← eB]
  have bpn : B.pn = [] := by rw [← eB]
  have bex : B.ex = fp := by rw [← eB]
  have benv : B.env = compEnvC scope cl s3.heap.objs.size X.env := by rw [← eB]
  have stat : ∀ {σ' : L2.St} {H' : Hp} {s' : Shared}, Inv B [] σ' H' s' → (∀ b ∈ fp, H' b = none) → ∀ b ∈ fp, FpOk B [] H' b := fun {σ' H' s'} I' hn b hb => by
    have hb' : b ∈ B.ex := by rw [bex]; exact hb
    exact ⟨hn b hb, (I'.ok.exf b hb').1, I'.ok.exfs b hb', .inl hb', fun x c e => (I'.ok.exf b hb').2 x c e, fun p hp => absurd hp (by rw [bpn]; simp)⟩
  have loop : codeAny (model X.prog X.w) X.A (.compLoop (.DictComp kx vx [⟨tg, iter, ifs, 0⟩] scope pos) 0 (.ref it) (.ref D) (compEnvC scope cl s3.heap.objs.size X.env)) (compPost (model X.prog X.w) X.A X.xe use Qf (.ref D) s3.heap.objs.size) s4 := by
    rw [← benv, ← bP, ← bw, ← bA]
    refine compLoop_anyD (fun n s' => ∃ i H', Inv B [] (wipe σ (own.map (·.2))) H' s' ∧ tn i s'.heap ∧ (∀ b ∈ fp, H' b = none) ∧ W i n H') ?_ m0 ⟨0, H3, I4, st4, fun b hb => (f3 b hb).1.1, w0⟩
    rintro n s5 ⟨i, H5, I5, st5, n5, w5⟩
    rcases turn i n H5 w5 with ⟨stop, qq⟩ | ⟨go, Nx, hNx, step⟩
    · refine thnF (bP ▸ bw ▸ T.done B bP bw bK bc i [] s5 _ H5 (fun _ _ => False) I5 (stat I5 n5) st5 stop) fun r s6 ⟨hr, I6⟩ => ?_
      subst hr
      have J6 := I6
      rw [← eB] at J6
      have I7 : Inv X pins σ H5 s6 := I3.call' (ch := fp) J6.os J6.base J6.hok J6.bare fun b hb => ⟨(f3 b hb).1.2.2.2.1, (f3 b hb).1.2.1, (f3 b hb).1.2.2.2.2.1, (f3 b hb).1.2.2.2.2.2⟩
      have nC : H5 s3.heap.objs.size = none := J6.free
      obtain ⟨m, hn, _⟩ := J6.loc
      have hn : s6.heap.Ns s3.heap.objs.size m := hn
      rw [bP, bw, bA]
      exact hRR D s3.heap.objs.size s6 m H5 I7 qq hn (I3.fpOk (Nat.le_refl _) nC)
    · refine thnF (bP ▸ bw ▸ T.item B bP bw bK bc i [] s5 _ H5 (fun _ _ => False) I5 (stat I5 n5) st5 go) fun r s6 ⟨u, hr, h6⟩ => ?_
      subst hr
      refine thnF h6 fun _ s7 ⟨x, H7, I7, r7, y7, st7, n7⟩ => ?_
      have I7' := I7.pinned (stat I7 n7) (T.obj _ _ st7)
      have weak : ∀ {α : Type} {t : Sem α} {Qa Qb : α → Shared → Prop} {E' : Value → Shared → Prop} {s' : Shared}, wpAny (model B.prog B.w) B.A t Qa B.xe s' → (∀ a s, Qa a s → Qb a s) → wpAny (model B.prog B.w) B.A t Qb E' s' := fun {α t Qa Qb E' s'} h1 h2 => by
        rw [bx] at h1
        exact thnF h1 h2
      refine weak (pg.run _ s7 _ H7 x u _ I7' r7 (step x H7 y7)) fun _ s8 ⟨σ8, H8, I8, hw8, q8⟩ => ?_
      refine weak (pt.run _ s8 σ8 H8 _ I8 q8) fun b s9 ⟨H9, I9, q9⟩ => ?_
      have fin : ∀ {s' : Shared} {H' : Hp}, Inv B ([] ++ pinsAt fp s7.heap) σ8 H' s' → Nx H' → ∃ m, m < n ∧ ∃ i H', Inv B [] (wipe σ (own.map (·.2))) H' s' ∧ tn i s'.heap ∧ (∀ b ∈ fp, H' b = none) ∧ W i m H' := fun {s' H'} I' nx => by
        obtain ⟨m', hm, w'⟩ := hNx H' nx
        have pin' : ∀ b ∈ fp, ∀ o, s7.heap.get? b = some o → s'.heap.get? b = some o ∧ H' b = none := fun b hb o e => by
          have z := I'.pin (b, o) (List.mem_append_right _ (List.mem_append_right _ (mem_pinsAt hb e)))
          exact ⟨z.1, z.2.1⟩
        refine ⟨m', hm, i + 1, H', (I'.unpinned (pins := [])).weak (by rw [← hw8, wipe_length]) (fun j v e => ?_), T.keep _ _ _ st7 fun b hb o e => (pin' b hb o e).1, fun b hb => ?_, w'⟩
        · rw [← hw8] at e
          exact (wipe_some e).1
        · obtain ⟨o, e, _⟩ := T.obj _ _ st7 b hb
          exact (pin' b hb o e).2
      cases b with
      | false =>
        rw [if_neg Bool.false_ne_true] at q9 ⊢
        exact fin I9 q9
      | true =>
        rw [if_pos rfl] at q9 ⊢
        refine weak (pk.run _ s9 σ8 H9 _ I9 q9) fun z s10 ⟨yk, H10, I10, r10, q10⟩ => ?_
        refine weak (pv.run _ s10 σ8 H10 _ I10 q10) fun z2 s11 ⟨yv, H11, I11, r11, kvs, b, k, ⟨ek, nk, dp⟩, hD11, hz11, nx⟩ => ?_
        subst ek
        cases r10
        exact n_dictSet (X := B) (by rw [bA]; exact hu) I11 (by rw [bP, bw]; exact hD11) hz11 nk dp r11 fun H12 s12 e12 d12 I12 => fin I12 (nx H12 e12 (by rw [bP, bw] at d12; exact d12))
  exact codeAny_compStart_dict loop (T.self X.A 0 _ _ _ st4 loop)
theorem pe_dcN {kx vx tg iter : Expr} {ifs : List Expr} {scope : Scope} {own : List (Str × Nat)} {pos : Pos} {wi : TI} {g : TG} {tt : TT} {tk tv : TE} (hu : X.A.units + 9 < cLine) (hc : X.calm = true) (hN : X.N.Nodup) (hi : PI X tg iter wi) (ok : BlkOk X.N X.env.scope scope own)
    (hg : ∀ (s : Shared) (H : Hp) (C : Addr) (cl : List (Str × Addr)) (fp : List Addr), PG (X.blk s H scope (compEnvC scope cl C X.env) fp) tg g)
    (ht : ∀ (s : Shared) (H : Hp) (C : Addr) (cl : List (Str × Addr)) (fp : List Addr), PTs (X.blk s H scope (compEnvC scope cl C X.env) fp) ifs tt)
    (hk : ∀ (s : Shared) (H : Hp) (C : Addr) (cl : List (Str × Addr)) (fp : List Addr), PE (X.blk s H scope (compEnvC scope cl C X.env) fp) kx tk)
    (he : ∀ (s : Shared) (H : Hp) (C : Addr) (cl : List (Str × Addr)) (fp : List Addr), PE (X.blk s H scope (compEnvC scope cl C X.env) fp) vx tv) (hs : ∀ x, foldedSetIterable iter X.env x = pure x := by intro _; rfl) :
    PE X (.DictComp kx vx [⟨tg, iter, ifs, 0⟩] scope pos) (tDcN X.prog X.w wi g tt tk tv (own.map (·.2))) := by
  refine ⟨fun pins s σ H Q I h => ?_⟩
  rw [arm_eval_DictComp]
  refine dcN_core hu hc hN I hi ok hg ht hk he hs h fun D C s' m H' I' q hn f => ⟨m, hn, fun h'' sb => ?_⟩
  obtain ⟨f0, f1, f2, f3, f4, f5⟩ := f
  exact ⟨.ref D, H', I'.turned (t' := s'.toks) (fun b o hb e => (sb.2 b hb).trans e) f0 f1 f3 f4 f5, rfl, q⟩
theorem swd_true {kx vx : Expr} {gs : List Comprehension} {scope : Scope} {pos py : Pos} {y : Str} {l : Nat} {env : Env} (hk : env.scope.kind = .function) (hy : env.scope.names.lookup y = some .local) (hl : (py.line == pos.line) = true)
    (ha : (scope.names.any fun (n, k) => n == y && (k == .local || k == .cell)) = false) : swapsWith (.DictComp kx vx gs scope pos) (some (.Name y py)) l env = pure true := by
  have ky : env.kindOf y = some .local := hy
  have hb : env.blockKind = .function := by unfold Env.blockKind; rw [hk]; rfl
  unfold swapsWith
  simp only [hb, ky, ha, Expr.pos, hl]
  rfl
/-- y = {..}, y a local: the store within the comprehension's frame -/
theorem set_use {i : Nat} {y : Str} {py : Pos} {pins : List (Addr × Obj)} {σ : L2.St} {D : Ends} {L C : Addr} {s' : Shared} {m : Str → Option Value} {H' : Hp} (hN : X.N.Nodup) (hy : X.N[i]? = some y) (hyl : X.env.scope.names.lookup y = some .local)
    (I' : Inv X pins σ H' s') (q : gName i (.ref L) σ H' D.nx) (hn : s'.heap.Ns C m) (f : FpOk X pins H' C) : compPost (model X.prog X.w) X.A X.xe (some (assign (.Name y py) X.env)) (fun _ s2 => SP X pins D .next s2) (.ref L) C (.ok .next) s' := by
  show wpAny _ _ (assign (.Name y py) X.env (.ref L)) _ _ _
  refine wpAny_assign_Name (store_ok2 (v := V.ref L) I' hN hy (.inl hyl) rfl (fun s2 I2 ⟨a, sb, ha⟩ => ?_) (.inr hyl))
  obtain ⟨f0, f1, f2, f3, f4, f5⟩ := f
  have haC : C ≠ a := ha.elim (fun z => by rw [z]; exact f1) fun z e => f4 y a z e.symm
  exact ⟨m, hn.sameBut sb haC, fun h3 sb3 => ⟨_, H', I2.turned (t' := s2.toks) (fun b o hb e => (sb3.2 b hb).trans e) f0 f1 f3 f4 f5, q⟩⟩
theorem ps_setDcN {i : Nat} {y : Str} {py : Pos} {kx vx tg iter : Expr} {ifs : List Expr} {scope : Scope} {own : List (Str × Nat)} {pos spos : Pos} {wi : TI} {g : TG} {tt : TT} {tk tv : TE} (hu : X.A.units + 9 < cLine) (hc : X.calm = true) (hN : X.N.Nodup) (hy : X.N[i]? = some y) (hyl : X.env.scope.names.lookup y = some .local)
    (hsw : swapsWith (.DictComp kx vx [⟨tg, iter, ifs, 0⟩] scope pos) (some (.Name y py)) spos.line X.env = pure true) (hi : PI X tg iter wi) (ok : BlkOk X.N X.env.scope scope own)
    (hg : ∀ (s : Shared) (H : Hp) (C : Addr) (cl : List (Str × Addr)) (fp : List Addr), PG (X.blk s H scope (compEnvC scope cl C X.env) fp) tg g)
    (ht : ∀ (s : Shared) (H : Hp) (C : Addr) (cl : List (Str × Addr)) (fp : List Addr), PTs (X.blk s H scope (compEnvC scope cl C X.env) fp) ifs tt)
    (hk : ∀ (s : Shared) (H : Hp) (C : Addr) (cl : List (Str × Addr)) (fp : List Addr), PE (X.blk s H scope (compEnvC scope cl C X.env) fp) kx tk)
    (he : ∀ (s : Shared) (H : Hp) (C : Addr) (cl : List (Str × Addr)) (fp : List Addr), PE (X.blk s H scope (compEnvC scope cl C X.env) fp) vx tv) (hs : ∀ x, foldedSetIterable iter X.env x = pure x := by intro _; rfl) :
    PS X (.Assign [.Name y py] (.DictComp kx vx [⟨tg, iter, ifs, 0⟩] scope pos) spos) (tAsg (tDcN X.prog X.w wi g tt tk tv (own.map (·.2))) (gName i)) := by
  refine ⟨fun pins s σ H D I h => ?_⟩
  rw [exec_Assign_Name_used _ _ _ _ hsw]
  refine wpAny_bind (wpAny_standAt (wpAny_bind ?_))
  have h : tDcN X.prog X.w wi g tt tk tv (own.map (·.2)) σ H (fun x H1 => gName i x σ H1 D.nx) := h
  exact wpAny_bind (thn (dcN_core (Qf := fun _ s' => SP X pins D .next s') hu hc hN I hi ok hg ht hk he hs h fun L C s' m H' I' q hn f => set_use hN hy hyl I' q hn f) fun _ s' hq => wpAny_pure (wpAny_pure hq))
theorem ps_setDc {i : Nat} {y : Str} {py : Pos} {kx vx tg iter : Expr} {ifs : List Expr} {scope : Scope} {own : List (Str × Nat)} {pos spos : Pos} {wi : TI} {g : TG} {tt : TT} {tk tv : TE} (hc : X.calm = true) (hN : X.N.Nodup) (hy : X.N[i]? = some y) (hyl : X.env.scope.names.lookup y = some .local)
    (hsw : swapsWith (.DictComp kx vx [⟨tg, iter, ifs, 0⟩] scope pos) (some (.Name y py)) spos.line X.env = pure true) (hi : PI X tg iter wi) (ok : BlkOk X.N X.env.scope scope own)
    (hg : ∀ (s : Shared) (H : Hp) (C : Addr) (cl : List (Str × Addr)) (fp : List Addr), PG (X.blk s H scope (compEnvC scope cl C X.env) fp) tg g)
    (ht : ∀ (s : Shared) (H : Hp) (C : Addr) (cl : List (Str × Addr)) (fp : List Addr), PTs (X.blk s H scope (compEnvC scope cl C X.env) fp) ifs tt)
    (hk : ∀ (s : Shared) (H : Hp) (C : Addr) (cl : List (Str × Addr)) (fp : List Addr), PE (X.blk s H scope (compEnvC scope cl C X.env) fp) kx tk)
    (he : ∀ (s : Shared) (H : Hp) (C : Addr) (cl : List (Str × Addr)) (fp : List Addr), PE (X.blk s H scope (compEnvC scope cl C X.env) fp) vx tv) (hs : ∀ x, foldedSetIterable iter X.env x = pure x := by intro _; rfl) :
    PS X (.Assign [.Name y py] (.DictComp kx vx [⟨tg, iter, ifs, 0⟩] scope pos) spos) (tAsg (tDc wi g tt tk tv (own.map (·.2))) (gName i)) := by
  refine ⟨fun pins s σ H D I h => ?_⟩
  rw [exec_Assign_Name_used _ _ _ _ hsw]
  refine wpAny_bind (wpAny_standAt (wpAny_bind ?_))
  have h : tDc wi g tt tk tv (own.map (·.2)) σ H (fun x H1 => gName i x σ H1 D.nx) := h
  exact wpAny_bind (thn (dc_core (Qf := fun _ s' => SP X pins D .next s') hc hN I hi ok hg ht hk he hs h fun L C s' m H' I' q hn f => set_use hN hy hyl I' q hn f) fun _ s' hq => wpAny_pure (wpAny_pure hq))
end
end Cp
end

section
set_option Elab.async false
set_option linter.all false
set_option maxRecDepth 100000
set_option maxHeartbeats 4000000
/-! dicts merged, compared with the empty one; in over a tuple of data; sorted of pairs (key, state) -/
namespace Cp
open PySem PySem.Spec PyProof.Rows L2
section
variable {X : Cx}
def rInDT (K : PySem.W.Frag) : R2 := fun x y H Q => ∃ d ds, Dp K H x d ∧ Dp K H y (.tuple ds) ∧ SeqAt.shaped d = true ∧ SeqAt.shaped (.tuple ds) = true ∧ Q (.bl (ds.any fun z => PyData.eqv z d)) H
theorem op_inDT (hu : X.A.units + 65 < cLine) : OpR X (compareOp .In) (rInDT X.K) := by
  intro pins s σ H x y v u Q I rx ry h
  obtain ⟨d, ds, hd, he, sd, se, q⟩ := h
  obtain ⟨as, r1⟩ := Dp.reads I d x v hd rx
  obtain ⟨bs, r2⟩ := Dp.reads I (.tuple ds) y u he ry
  exact SeqAt.in_tuple_reads r2 r1 (SeqAt.canLay_of_shaped se) (SeqAt.canLay_of_shaped sd) (room_in_shaped sd hu) ⟨.bl _, H, I, rfl, q⟩
/-- d.update(e) -/
def rUpd : V → List V → Hp → VK → Prop := fun x xs H Q => ∃ a b ks ms, x = .ref a ∧ xs = [.ref b] ∧ a ≠ b ∧ H a = some (.dK ks) ∧ H b = some (.dK ms) ∧ ks.length + ms.length ≤ sizeLine ∧ Q .non (upd H a (.dK (mergeK ks ms)))
theorem kv_merge : ∀ {ms : List (Key × V)} {vs : List (Key × Value)}, KV ms vs → ∀ {ks : List (Key × V)} {us : List (Key × Value)}, KV ks us → KV (mergeK ks ms) (merged us vs)
  | _, _, .nil, _, _, r => r
  | _, _, .cons (a := p) (b := q) f t, ks, us, r => by
    have r1 : KV (putK ks p.1 p.2) (stored us q.1 q.2) := by
      rw [← f.1]
      exact r.put p.1 f.2
    exact kv_merge t r1
theorem merge_len : ∀ (ms ks : List (Key × V)), (mergeK ks ms).length ≤ ks.length + ms.length
  | [], ks => Nat.le_refl _
  | p :: ms, ks => by
    have h1 := merge_len ms (putK ks p.1 p.2)
    have h2 := length_putK ks p.1 p.2
    show (mergeK (putK ks p.1 p.2) ms).length ≤ ks.length + (ms.length + 1)
    omega
theorem mt_update : MtR X "dict.update" rUpd := by
  intro pins s σ H x xs v us Q I rx rxs h
  obtain ⟨a, b, ks, ms, rfl, rfl, hab, ha, hb, hl, q⟩ := h
  cases rx
  obtain ⟨u, rfl, ru⟩ := vals1 rxs
  cases ru
  obtain ⟨za, na, va, ra, da⟩ := dk_of I.hok ha
  obtain ⟨zb, nb, vb, rb, db⟩ := dk_of I.hok hb
  refine call_meetsIn PySem.F.slot_dict_update da.typeIs PySem.F.entry_dict_update (PySem.F.args_dict_update_2 _ _) (meets_dict_update (mixKind X.prog X.w) a b hab nb) ⟨va, vb, da, db, by rw [← ra.length, ← rb.length]; exact hl, fun h' d' _ sb => ?_⟩
  have he : ∃ q, h'.get? a = some q := let ⟨q, _, _, hq, _⟩ := d'; ⟨q, hq⟩
  exact ⟨.non, _, d_write (t' := s.toks) I (by rw [ha]; trivial) sb he (dk_new (Nat.le_trans (merge_len ms ks) hl) na (kv_merge rb ra) d'), rfl, q⟩
/-- d != {} -/
def rNeE : R2 := fun x y H Q => ∃ a b ks, x = .ref a ∧ y = .ref b ∧ H a = some (.dK ks) ∧ H b = some (.dK []) ∧ Q (.bl (!ks.isEmpty)) H
theorem op_ne_dK (hu : X.A.units < cLine) : OpR X (compareOp .NotEq) rNeE := by
  intro pins s σ H x y v u Q I rx ry h
  obtain ⟨a, b, ks, rfl, rfl, ha, hb, q⟩ := h
  cases rx
  cases ry
  obtain ⟨za, na, va, ra, da⟩ := dk_of I.hok ha
  obtain ⟨zb, nb, vb, rb, db⟩ := dk_of I.hok hb
  cases rb
  cases ra with
  | nil => exact PySem.W.keq_ne (knd := mixKind X.prog X.w) (r := true) na nb da db hu (fun _ => .nil) (fin_bl I q (by simp))
  | cons f t => exact PySem.W.keq_ne (knd := mixKind X.prog X.w) (r := true) na nb da db hu (fun z => by simp at z) (fin_bl I q (by simp))
/-! ### sorted: items (key, state), the key a list of pairs of ints -/
def dS (s : List (Option Int)) : PyData := .tuple (s.map dO)
/-- None is above all numbers -/
def kd : Option Int → PyData
  | none => .tuple [.int 1, .int 0]
  | some i => .tuple [.int 0, .int i]
def dKey (s : List (Option Int)) : PyData := .list (s.map kd)
theorem kd_alike (a b : Option Int) : PySem.W.alike (kd a) (kd b) = true := by
  cases a <;> cases b <;> simp [kd, PySem.W.alike, PySem.W.alikeAll]
theorem kds_alike : ∀ (s t : List (Option Int)), PySem.W.alikeAll (s.map kd) (t.map kd) = true
  | [], _ => by simp [PySem.W.alikeAll]
  | _ :: _, [] => by simp [PySem.W.alikeAll]
  | a :: s, b :: t => by
    rw [List.map_cons, List.map_cons, PySem.W.alikeAll, kd_alike, kds_alike s t]
    rfl
theorem key_alike (s t : List (Option Int)) : PySem.W.alike (dKey s) (dKey t) = true := by
  show PySem.W.alike (.list _) (.list _) = true
  rw [PySem.W.alike]
  exact kds_alike s t
theorem kd_eqv (a b : Option Int) : PyData.eqv (kd a) (kd b) = decide (a = b) := by
  cases a with
  | none =>
    cases b with
    | none => simp [kd, PyData.eqv, PyData.eqvAll]
    | some j => simp [kd, PyData.eqv, PyData.eqvAll]
  | some i =>
    cases b with
    | none => simp [kd, PyData.eqv, PyData.eqvAll]
    | some j => by_cases h : i = j <;> simp [kd, PyData.eqv, PyData.eqvAll, h]
theorem dO_eqv (a b : Option Int) : PyData.eqv (dO a) (dO b) = decide (a = b) := by
  cases a with
  | none =>
    cases b with
    | none => simp [dO, PyData.eqv]
    | some j => simp [dO, PyData.eqv]
  | some i =>
    cases b with
    | none => simp [dO, PyData.eqv]
    | some j => by_cases h : i = j <;> simp [dO, PyData.eqv, h]
theorem eqvAll_map (f : Option Int → PyData) (hf : ∀ a b, PyData.eqv (f a) (f b) = decide (a = b)) : ∀ s t : List (Option Int), PyData.eqvAll (s.map f) (t.map f) = decide (s = t)
  | [], [] => by simp [PyData.eqvAll]
  | [], _ :: _ => by simp [PyData.eqvAll]
  | _ :: _, [] => by simp [PyData.eqvAll]
  | a :: s, b :: t => by
    rw [List.map_cons, List.map_cons, PyData.eqvAll, hf, eqvAll_map f hf s t]
    by_cases h : a = b <;> by_cases h' : s = t <;> simp [h, h']
theorem dS_eqv (s t : List (Option Int)) : PyData.eqv (dS s) (dS t) = decide (s = t) := by
  show PyData.eqv (.tuple _) (.tuple _) = _
  rw [PyData.eqv]
  exact eqvAll_map dO dO_eqv s t
theorem dKey_eqv (s t : List (Option Int)) : PyData.eqv (dKey s) (dKey t) = decide (s = t) := by
  show PyData.eqv (.list _) (.list _) = _
  rw [PyData.eqv]
  exact eqvAll_map kd kd_eqv s t
theorem lay_map (f : Option Int → PyData) (hf : ∀ a, (f a).canLay0 = true) : ∀ s : List (Option Int), PyData.canLayAll0 (s.map f) = true
  | [] => by simp [PyData.canLayAll0]
  | a :: s => by rw [List.map_cons, PyData.canLayAll0, hf, lay_map f hf s]; rfl
theorem depth_map (f : Option Int → PyData) (n : Nat) (hf : ∀ a, (f a).depth ≤ n) : ∀ s : List (Option Int), PyData.depthAll (s.map f) ≤ n
  | [] => by simp [PyData.depthAll]
  | a :: s => by
    have h1 := hf a
    have h2 := depth_map f n hf s
    rw [List.map_cons, PyData.depthAll]
    omega
theorem dS_lay (s : List (Option Int)) : (dS s).canLay0 = true := by
  show PyData.canLay0 (.tuple _) = true
  rw [PyData.canLay0]
  exact lay_map dO (fun a => by cases a <;> simp [dO, PyData.canLay0]) s
theorem dKey_lay (s : List (Option Int)) : (dKey s).canLay0 = true := by
  show PyData.canLay0 (.list _) = true
  rw [PyData.canLay0]
  exact lay_map kd (fun a => by cases a <;> simp [kd, PyData.canLay0, PyData.canLayAll0]) s
theorem dS_depth (s : List (Option Int)) : (dS s).depth ≤ 1 := by
  show PyData.depth (.tuple _) ≤ 1
  have := depth_map dO 0 (fun a => by cases a <;> simp [dO, PyData.depth]) s
  simp only [PyData.depth]
  omega
theorem dKey_depth (s : List (Option Int)) : (dKey s).depth ≤ 2 := by
  show PyData.depth (.list _) ≤ 2
  have := depth_map kd 1 (fun a => by cases a <;> simp [kd, PyData.depth, PyData.depthAll]) s
  simp only [PyData.depth]
  omega
theorem dS_shaped (s : List (Option Int)) : SeqAt.shaped (dS s) = true := by
  show ((dS s).canLay0 && decide ((dS s).depth ≤ 64)) = true
  rw [dS_lay, decide_eq_true (by have := dS_depth s; omega)]
  rfl
/-- an item over the raw heap -/
def ItemAt (h : Heap) (v : Value) (s : List (Option Int)) : Prop := ∃ t o n l k ol as bs, v = .ref t ∧ h.get? t = some o ∧ o.cls = .type "tuple" ∧ o.data = .seq #[.ref l, k] n ∧ h.get? l = some ol ∧ ol.cls = .type "list" ∧ PySem.Reads h (.ref l) (dKey s) as ∧ PySem.Reads h k (dS s) bs
theorem ItemAt.keeps {h h' : Heap} {v : Value} {s : List (Option Int)} (i : ItemAt h v s) (kp : ∀ b o, h.get? b = some o → h'.get? b = some o) : ItemAt h' v s := by
  obtain ⟨t, o, n, l, k, ol, as, bs, e, ho, hc, hd, hl, cl, r1, r2⟩ := i
  exact ⟨t, o, n, l, k, ol, as, bs, e, kp _ _ ho, hc, hd, kp _ _ hl, cl, Reads.keeps kp r1, Reads.keeps kp r2⟩
section
variable {prog : Program} {w : World} {A : Around} {s : Shared}
theorem item_tot {vs : List Value} (hu : A.units + 8 < cLine) (hp : ∀ v ∈ vs, ∃ st, ItemAt s.heap v st) : Srt.Tot prog w A s (tuples' true) (fun p => p.1 ∈ vs) := by
  intro p q hm hm'
  obtain ⟨st, t, o, n, l, k, ol, as, bs, e, ho, hc, hd, hl, cl, r1, r2⟩ := hp _ hm
  obtain ⟨st', t', o', n', l', k', ol', as', bs', e', ho', hc', hd', hl', cl', r1', r2'⟩ := hp _ hm'
  rw [e, e']
  refine ⟨if st = st' then false else PySem.W.dataLt (dKey st) (dKey st'), ?_⟩
  have d1 := dKey_depth st
  have d2 := dS_depth st
  refine PySem.W.kat_lt ho hd ho' hd' ?_
  show PySem.W.KatLex prog w A true (decide (2 < 2)) _ [(.ref l, .ref l'), (k, k')] 0 s
  refine PySem.W.kat_cons (SeqAt.eqAt_reads _ _ A s _ _ _ _ r1 r1' (dKey_lay st) (dKey_lay st') (by omega) prog w _ _ ?_)
  rw [dKey_eqv]
  refine PySem.W.kat_go (fun e1 => ?_) (fun e1 => ?_)
  · have ex : st = st' := by simpa using e1
    subst ex
    refine PySem.W.kat_yes (PySem.W.kat_cons (SeqAt.eqAt_reads _ _ A s _ _ _ _ r2 r2' (dS_lay st) (dS_lay st) (by omega) prog w _ _ ?_))
    rw [dS_eqv, decide_eq_true rfl]
    exact PySem.W.kat_yes (PySem.W.kat_nil ⟨rfl, by rw [if_pos rfl]; rfl⟩)
  · have ex : ¬ st = st' := by simpa using e1
    refine PySem.W.kat_no (PySem.W.oneLt_alike (fun _ xs z => by unfold dKey at z; cases z) r1 r1' (key_alike st st') (fun z => by unfold dKey at z; cases z) (by omega) ?_)
    exact ⟨rfl, by rw [if_neg ex]⟩
theorem item_firsts {h : Heap} : ∀ {vs : List Value}, (∀ v ∈ vs, ∃ st, ItemAt h v st) → ∃ fs : List Value, PySem.W.KatTups h vs fs ∧ fs.length = vs.length ∧ ∀ f ∈ fs, ∃ l ol, f = Value.ref l ∧ h.get? l = some ol ∧ ol.cls = .type "list"
  | [], _ => ⟨[], PySem.W.KatTups.nil, rfl, fun _ hm => by simp at hm⟩
  | v :: vs, hp => by
    obtain ⟨fs, h1, h2, h3⟩ := item_firsts (vs := vs) fun v' hm => hp v' (List.mem_cons_of_mem _ hm)
    obtain ⟨st, t, o, n, l, k, ol, as, bs, rfl, ho, hc, hd, hl, cl, _⟩ := hp v (List.mem_cons_self ..)
    refine ⟨.ref l :: fs, PySem.W.KatTups.cons ho hc hd rfl h1, by rw [List.length_cons, List.length_cons, h2], fun f hm => ?_⟩
    rcases List.mem_cons.mp hm with rfl | hm
    · exact ⟨l, ol, rfl, hl, cl⟩
    · exact h3 f hm
theorem item_sortable {a : Addr} {vs : List Value} {h₁ : Heap} (hu : A.units + 8 < cLine) (h0 : 0 < vs.length) (hp : ∀ v ∈ vs, ∃ st, ItemAt s.heap v st) (hk : ∀ b o, s.heap.get? b = some o → b ≠ a ∧ h₁.get? b = some o) : Srt.Sortable prog w A { s with heap := h₁ } a vs := by
  intro h' keep
  have hp' : ∀ v ∈ vs, ∃ st, ItemAt h' v st := fun v hm => by
    obtain ⟨st, i⟩ := hp v hm
    exact ⟨st, i.keeps fun b o e => keep b o (hk b o e).1 (hk b o e).2⟩
  obtain ⟨fs, h1, h2, h3⟩ := item_firsts hp'
  refine ⟨tuples' true, fun Q E hq => ?_, item_tot hu hp'⟩
  refine PySem.W.kat_kind (T := .type "list") h1 (by omega) (fun f hm => ?_) (by rfl) ?_
  · obtain ⟨l, ol, rfl, hl, cl⟩ := h3 f hm
    exact cl ▸ (show PySem.W.Looks _ h' (typeOf (.ref l)) ol.cls from (PySem.W.Looks.ld hl).andThen .now)
  · have e : (Value.type "list" != Value.type "tuple") = true := by first | decide +kernel | rfl | decide
    rw [e]
    exact hq
theorem sorted_items {l : Addr} {vs : List Value} {E : Value → Shared → Prop} {Q : Value → Shared → Prop} (hu : A.units + 16 < cLine) (hl : s.heap.IsList l vs.toArray) (hz : vs.length ≤ sizeLine) (hp : ∀ v ∈ vs, ∃ st, ItemAt s.heap v st)
    (h : ∀ (h' : Heap) (d : Addr) (out : List Value), out.Perm vs → (∀ b o, s.heap.get? b = some o → h'.get? b = some o) → s.heap.objs.size ≤ d → (∃ n, h'.get? d = some (seqObj "list" out.toArray n)) → Q (.ref d) { s with heap := h' }) :
    wpAny (model prog w) A (call (.builtin "sorted") [.ref l]) Q E s :=
  Srt.sorted_any hl hz (fun h2 h₁ a ha k => item_sortable (A := A.in1.in1) (by show A.units + 1 + 1 + 8 < cLine; omega) (by omega) hp k)
    fun out ho => h _ _ out ho (fun b o e => sortedAll_old e) (Nat.le_succ _) (sortedAll_at s.heap vs out.toArray)
end
/-- an item: a tuple of a list of pairs and a state -/
def ItemV (H : Hp) (x : V) (s : List (Option Int)) : Prop := ∃ t l xs v, x = .ref t ∧ H t = some (.tup [.ref l, v]) ∧ H l = some (.lst xs) ∧ RDs H xs (s.map kd) ∧ RD H v (dS s)
def rSortedG (K : PySem.W.Frag) : List V → Hp → VK → Prop := fun vs H Q => ∃ a xs, vs = [V.ref a] ∧ SqL K H a xs ∧ (∀ x ∈ xs, ∃ st, ItemV H x st) ∧ ∀ ys p, ys.Perm xs → H p = none → Q (.ref p) (upd H p (.lst ys))
theorem cr_sortedG (hu : X.A.units + 65 < cLine) : CallR X (.builtin "sorted") (rSortedG X.K) := by
  intro pins s σ H vs us Q I r h
  obtain ⟨a, xs, rfl, hs, hx, q⟩ := h
  obtain ⟨its, rv, hl, hz⟩ := I.list hs
  obtain ⟨u, rfl, ru⟩ := vals1 r
  obtain rfl : u = Value.ref a := ru
  obtain ⟨e1, e2⟩ := refs_back rv fun x m => by
    obtain ⟨st, t, _, _, _, e, _⟩ := hx x m
    exact ⟨t, e⟩
  refine sorted_items (by omega) hl.isList (by rw [← rv.length]; exact hz) (fun v hv => ?_) fun h' d out h2 kp hd hn => ?_
  · obtain ⟨t, rfl⟩ := e2 v hv
    have hm : V.ref t ∈ xs := by rw [e1]; exact List.mem_map.mpr ⟨_, hv, rfl⟩
    obtain ⟨st, t', l, ys, y, e, ht, hl', r1, r2⟩ := hx _ hm
    cases e
    obtain ⟨_, its2, r3, o, ho, hc, n, hd⟩ := I.hok _ _ ht
    obtain ⟨u1, u2, rfl, ri, rj⟩ := vals2 r3
    cases ri
    obtain ⟨as, q1⟩ := Dp.reads I (dKey st) (.ref l) (.ref l) (.lst (SqL.of hl') r1.dp) rfl
    obtain ⟨bs, q2⟩ := Dp.reads I (dS st) y u2 r2.dp rj
    obtain ⟨_, _, _, _, ol⟩ := I.hok _ _ hl'
    exact ⟨st, t, o, n, l, u2, _, as, bs, rfl, ho, hc, hd, ol, rfl, q1, q2⟩
  · have h3 : ∀ u ∈ out, ∃ a, u = Value.ref a := fun u hu => e2 u (h2.mem_iff.mp hu)
    obtain ⟨n, hn⟩ := hn
    have hb : (out.map backV).Perm xs := by
      rw [e1]
      exact h2.map backV
    refine ⟨.ref d, upd H d (.lst (out.map backV)), I.laid (t' := s.toks) kp hd ⟨?_, out, n, vals_back h3, hn⟩, rfl, q _ d hb (I.hok.fresh hd)⟩
    rw [hb.length_eq]
    exact hz
end
end Cp
end

section
set_option Elab.async false
set_option linter.all false
set_option maxRecDepth 100000
set_option maxHeartbeats 4000000
/-! places, matrices in the heap -/
namespace Cp
open PySem PySem.Spec PyProof.Rows L2
/-! ### rules with the module's objects named: a comprehension's context has the same -/
section
variable {X : Cx} (K : PySem.W.Frag)
theorem kx_list (h : X.K = K := by rfl) : IxR X (rIxL K) := h ▸ ix_list
theorem kx_tup (h : X.K = K := by rfl) : IxR X (rIxT K) := h ▸ ix_tup
theorem kl_list (h : X.K = K := by rfl) : SlR X (rSlL K) := h ▸ sl_list
theorem kl_tup (h : X.K = K := by rfl) : SlR X (rSlA K) := h ▸ sl_tupA
theorem ko_cat (h : X.K = K := by rfl) : OpR X (binaryOp .Add) (rCatA K) := h ▸ op_catA
theorem ko_eq (hu : X.A.units + 64 < cLine) (h : X.K = K := by rfl) : OpR X (compareOp .Eq) (rEqD K) := h ▸ op_eqD hu
theorem ko_ne (hu : X.A.units + 64 < cLine) (h : X.K = K := by rfl) : OpR X (compareOp .NotEq) (rNeD K) := h ▸ op_neD hu
theorem ko_inDT (hu : X.A.units + 65 < cLine) (h : X.K = K := by rfl) : OpR X (compareOp .In) (rInDT K) := h ▸ op_inDT hu
theorem ko_in (h : X.K = K := by rfl) : OpR X (compareOp .In) (rIn K false) := h ▸ op_in_seq
abbrev rLen (K : PySem.W.Frag) : List V → Hp → VK → Prop := fun xs H Q => ∃ p ys, xs = [.ref p] ∧ (SqL K H p ys ∨ SqT K H p ys) ∧ Q (.int ys.length) H
theorem kc_len (h : X.K = K := by rfl) : CallR X (.builtin "len") (rLen K) := h ▸ call_len_seq
theorem kc_isi (h : X.K = K := by rfl) : CallR X (.builtin "isinstance") (rIsi K) := h ▸ call_isi
abbrev rTupOf (K : PySem.W.Frag) : List V → Hp → VK → Prop := fun xs H Q => ∃ p ys, xs = [.ref p] ∧ ((SqL K H p ys ∧ ∀ l, H l = none → Q (.ref l) (upd H l (.tup ys))) ∨ (SqT K H p ys ∧ Q (.ref p) H))
theorem kc_tup (h : X.K = K := by rfl) : CallR X (.type "tuple") (rTupOf K) := h ▸ call_tuple_of
theorem kg_tup {es : List Expr} {k : Nat} {t : TGs} {n : Nat} {pos : Pos} (hc : X.calm = true) (h : PGs X es t)
    (hn : (assignEach es X.env).length = n := by rfl) (hst : (assignEach es X.env).findIdx? (·.1) = none := by rfl) (hk : X.K = K := by rfl) : PG X (.Tuple es k pos) (gTup K n t) := hk ▸ pg_tup hc h hn hst
theorem ki_list {tg l : Expr} {tl : TE} (hl : PE X l tl) (h : X.K = K := by rfl) : PI X tg l (iList K tl) := h ▸ pi_list hl
theorem kn_get (P : Program) (w : World) {o i : Expr} {pos : Pos} {td ty : TE} (hu : X.A.units + 9 < cLine) (ho : PE X o td) (hi : PE X i ty) (hs : NoSl i) (h1 : X.prog = P := by rfl) (h2 : X.w = w := by rfl) : PE X (.Subscript o i pos) (tNGet P w td ty) := by
  subst h1 h2
  exact pe_nget hu ho hi hs
theorem ki_tup {tg l : Expr} {tl : TE} (hl : PE X l tl) (h : X.K = K := by rfl) : PI X tg l (iTup K tl) := h ▸ pi_tup hl
end

theorem itT {c : Prop} [Decidable c] {A B : Prop} (h : c) (a : A) : if c then A else B := by rw [if_pos h]; exact a
theorem itF {c : Prop} [Decidable c] {A B : Prop} (h : ¬ c) (a : B) : if c then A else B := by rw [if_neg h]; exact a
theorem decI {i j : Nat} (h : i = j) : decide (V.int (i : Int) = V.int (j : Int)) = true := by rw [h]; exact decide_eq_true rfl
theorem decIN {i j : Nat} (h : i ≠ j) : ¬ decide (V.int (i : Int) = V.int (j : Int)) = true := by
  intro z
  have := V.int.inj (of_decide_eq_true z)
  omega
/-! ### places -/
theorem getD_at {α : Type} {l : List α} {i : Nat} {x d : α} (h : l[i]? = some x) : l.getD i d = x := by
  rw [List.getD_eq_getElem?_getD, h]
  rfl
theorem getD_out {α : Type} {l : List α} {i : Nat} {d : α} (h : l.length ≤ i) : l.getD i d = d := by
  rw [List.getD_eq_getElem?_getD, List.getElem?_eq_none h]
  rfl
theorem atI_of {α : Type} {xs : List α} {j : Nat} {v : α} (h : xs[j]? = some v) {i : Int} (e : i = (j : Int)) : atI xs i = some v := by
  rw [e]
  exact atI_nat h
theorem ixN_nat {n j : Nat} (h : j < n) : ixN n (j : Int) = some j := by
  unfold ixN
  rw [if_pos (by omega), if_pos (by omega), Int.toNat_natCast]
theorem vO_at {r : Row} {j : Nat} (h : j < r.length) : (r.map vO)[j]? = some (vO (r.getD j none)) := by
  simp [h]
theorem eqV_non (x : Option Int) : eqV (vO x) .non = decide (x = none) := by
  cases x <;> rfl
theorem eqV_vO (x y : Option Int) : eqV (vO x) (vO y) = decide (x = y) := by
  cases x with
  | none => cases y <;> rfl
  | some i =>
    cases y with
    | none => rfl
    | some j =>
      show (i == j) = _
      by_cases h : i = j <;> simp [h]
theorem flat_vO (x : Option Int) : flatV (vO x) = true := by cases x <;> rfl
theorem flats_vO (r : Row) : (r.map vO).all flatV = true := by
  induction r with
  | nil => rfl
  | cons x r ih => rw [List.map_cons, List.all_cons, flat_vO, ih]; rfl
theorem inV_non (r : Row) : inV .non (r.map vO) = decide (none ∈ r) := by
  induction r with
  | nil => rfl
  | cons x r ih =>
    show (eqV (vO x) .non || inV .non (r.map vO)) = _
    rw [ih, eqV_non]
    cases x <;> simp
theorem osum_none {r : Row} (h : none ∈ r) : osum r = none := by
  induction r with
  | nil => simp at h
  | cons x r ih =>
    rcases List.mem_cons.mp h with rfl | h
    · rfl
    · rw [osum, ih h]
      cases x <;> rfl
theorem osum_some : ∀ {r : Row}, none ∉ r → ∃ ns : List Int, r = ns.map some ∧ osum r = some ns.sum
  | [], _ => ⟨[], rfl, rfl⟩
  | none :: r, h => absurd (List.mem_cons_self ..) h
  | some i :: r, h => by
    obtain ⟨ns, e1, e2⟩ := osum_some (r := r) fun q => h (List.mem_cons_of_mem _ q)
    exact ⟨i :: ns, by rw [e1]; rfl, by rw [osum, e2]; rfl⟩
theorem map_vO_some (ns : List Int) : (ns.map some).map vO = ns.map V.int := by
  rw [List.map_map]
  rfl
/-- range(n) -/
theorem walk_rn {n : Nat} {j : Int} (e : j = (n : Int) := by rfl) : Walk (Itr 0 j.toNat) n (fun _ => True) (YFn fun i => .int (i : Nat)) := by
  subst e
  have w := walk_range (lo := 0) (n := n)
  rw [Int.toNat_natCast]
  exact w.mono (fun _ h => h) fun i H x H' _ _ y => ⟨y.1, y.2.trans (congrArg V.int (Int.zero_add _))⟩
/-! ### a list of lists -/
structure Mat (H : Hp) (a : Addr) (as : List Addr) (ws : List Row) : Prop where
  at' : H a = some (.lst (List.map V.ref as))
  len : as.length = ws.length
  nd : as.Nodup
  na : a ∉ as
  row : ∀ (i : Nat) (b : Addr) (r : Row), as[i]? = some b → ws[i]? = some r → H b = some (.lst (r.map vO))
/-- n rows of n -/
def Dim (n : Nat) (ws : List Row) : Prop := ws.length = n ∧ ∀ r ∈ ws, r.length = n
theorem Dim.mset {n : Nat} {ws : List Row} (d : Dim n ws) (i j : Nat) (v : Option Int) : Dim n (mset ws i j v) := by
  refine ⟨by unfold Cp.mset; rw [List.length_set]; exact d.1, fun r hr => ?_⟩
  unfold Cp.mset at hr
  by_cases q : i < ws.length
  · rcases List.mem_or_eq_of_mem_set hr with h | h
    · exact d.2 r h
    · rw [h, List.length_set, getD_at (List.getElem?_eq_getElem q)]
      exact d.2 _ (List.getElem_mem q)
  · rw [List.set_eq_of_length_le (by omega)] at hr
    exact d.2 r hr
theorem Dim.get {n : Nat} {ws : List Row} (d : Dim n ws) {i : Nat} (h : i < n) : ∃ r, ws[i]? = some r ∧ r.length = n ∧ ws.getD i [] = r := by
  have q : i < ws.length := by rw [d.1]; exact h
  exact ⟨ws[i], List.getElem?_eq_getElem q, d.2 _ (List.getElem_mem q), getD_at (List.getElem?_eq_getElem q)⟩
theorem Mat.ex {H H' : Hp} {a : Addr} {as : List Addr} {ws : List Row} (m : Mat H a as ws) (e : Ex H H') : Mat H' a as ws :=
  ⟨e _ _ m.at', m.len, m.nd, m.na, fun i b r h1 h2 => e _ _ (m.row i b r h1 h2)⟩
/-- a place in it -/
theorem Mat.get {H : Hp} {a : Addr} {as : List Addr} {ws : List Row} {n : Nat} (m : Mat H a as ws) (d : Dim n ws) {i : Nat} (hi : i < n) : ∃ b r, as[i]? = some b ∧ ws[i]? = some r ∧ r.length = n ∧ ws.getD i [] = r ∧ H b = some (.lst (r.map vO)) ∧ atI (as.map V.ref) (i : Int) = some (.ref b) := by
  obtain ⟨r, e1, e2, e3⟩ := d.get hi
  have h1 : i < as.length := by rw [m.len, d.1]; exact hi
  exact ⟨as[i], r, List.getElem?_eq_getElem h1, e1, e2, e3, m.row i _ r (List.getElem?_eq_getElem h1) e1, atI_nat (by simp [h1])⟩
/-- one row more -/
theorem Mat.snoc {H H' : Hp} {a b : Addr} {as : List Addr} {ws : List Row} {r : Row} (m : Mat H a as ws) (e : ∀ c o, c ≠ a → H c = some o → H' c = some o) (hb : H b = none) (h1 : H' b = some (.lst (r.map vO))) (h2 : H' a = some (.lst (as.map V.ref ++ [V.ref b]))) :
    Mat H' a (as ++ [b]) (ws ++ [r]) := by
  have nb : ∀ c ∈ as, c ≠ b ∧ c ≠ a := fun c hc => by
    obtain ⟨i, hi, rfl⟩ := List.getElem_of_mem hc
    have hw : i < ws.length := by rw [← m.len]; exact hi
    refine ⟨fun z => ?_, fun z => m.na (z ▸ hc)⟩
    have := m.row i _ _ (List.getElem?_eq_getElem hi) (List.getElem?_eq_getElem hw)
    rw [z, hb] at this
    cases this
  have nab : a ≠ b := fun z => by
    have := m.at'
    rw [z, hb] at this
    cases this
  refine ⟨by rw [List.map_append]; exact h2, by rw [List.length_append, List.length_append, m.len]; rfl, ?_, ?_, fun i c q g1 g2 => ?_⟩
  · rw [List.nodup_append]
    refine ⟨m.nd, by simp, fun x hx y hy => ?_⟩
    rw [List.mem_singleton.mp hy]
    exact (nb x hx).1
  · rw [List.mem_append, List.mem_singleton]
    exact fun z => z.elim m.na nab
  · by_cases hi : i < as.length
    · rw [List.getElem?_append_left hi] at g1
      rw [List.getElem?_append_left (by rw [← m.len]; exact hi)] at g2
      exact e c _ (nb c (List.mem_of_getElem? g1)).2 (m.row i c q g1 g2)
    · rw [List.getElem?_append_right (by omega)] at g1
      rw [List.getElem?_append_right (by rw [← m.len]; omega), ← m.len] at g2
      cases hk : i - as.length with
      | zero =>
        rw [hk] at g1 g2
        cases g1
        cases g2
        exact h1
      | succ k =>
        rw [hk] at g1
        simp at g1
/-- one place written -/
theorem Mat.put {H : Hp} {a : Addr} {as : List Addr} {ws : List Row} (m : Mat H a as ws) {i : Nat} {b : Addr} {r : Row} (hb : as[i]? = some b) (hr : ws[i]? = some r) (j : Nat) (v : Option Int) : Mat (upd H b (.lst ((r.map vO).set j (vO v)))) a as (mset ws i j v) := by
  have hi : i < ws.length := (List.getElem?_eq_some_iff.mp hr).1
  have hi' : i < as.length := (List.getElem?_eq_some_iff.mp hb).1
  have eb : b = as[i] := by rw [List.getElem?_eq_getElem hi'] at hb; exact (Option.some.inj hb).symm
  have hg : ws.getD i [] = r := by rw [List.getD_eq_getElem?_getD, hr]; rfl
  have nb : a ≠ b := fun e => m.na (by rw [e, eb]; exact List.getElem_mem hi')
  refine ⟨by rw [upd_ne nb]; exact m.at', by unfold Cp.mset; rw [List.length_set]; exact m.len, m.nd, m.na, fun k c q h1 h2 => ?_⟩
  unfold Cp.mset at h2
  rw [hg] at h2
  by_cases e : i = k
  · subst e
    rw [hb] at h1
    cases h1
    rw [List.getElem?_set_self hi] at h2
    cases h2
    rw [upd_same, List.map_set]
  · rw [List.getElem?_set_ne e] at h2
    have hk : k < as.length := (List.getElem?_eq_some_iff.mp h1).1
    have ec : c = as[k] := by rw [List.getElem?_eq_getElem hk] at h1; exact (Option.some.inj h1).symm
    rw [upd_ne (fun z => e ((List.getElem?_inj hi' m.nd).mp (by rw [hb, h1, z])))]
    exact m.row k c q h1 h2
end Cp
end

section
set_option Elab.async false
set_option linter.all false
set_option maxRecDepth 100000
set_option maxHeartbeats 4000000
namespace Cp
open PySem PySem.Spec PyProof.Rows L2
section
variable {P : Program} {w : World} {K : PySem.W.Frag} {mg : Str → Option Value} {base : Heap}

/-! less -/
def sp_less : Sp := fun vs H Q _ => ∃ a b : Option Int, vs = [vO a, vO b] ∧ Q (vO (oless a b)) H
theorem ok_less (T : Tx mg) (D : Def K mg "less" s_less) : Cal P w K mg base CX0 "less" 1 ["one", "other"] sp_less := by
  obtain ⟨f, fd, F, hm⟩ := D.ex
  refine ⟨f, fd, F.ok sc_less (fun vs H Q E h => ?_) (fun cdv A outer s H vs Q E hr h => ?_), hm, F.kp, F.binds fun _ _ _ _ _ _ us hl => match us, hl with | [_, _], _ => rfl⟩
  · obtain ⟨a, b, rfl, _⟩ := h
    rfl
  · obtain ⟨a, b, rfl, q⟩ := h
    refine ⟨_, (pss_cons (ps_if (PW.pt (pw_or (pt_cmpR op_isN (pv 0) pe_non (nomark _)) (pw_or1 (pt_cmpR op_isN (pv 1) pe_non (nomark _))))) (pss_one (ps_ret (pe_ifExp (pt_cmpR op_isN (pv 0) pe_non (nomark _)) (pv 1) (pv 0)))) pss_nil)
  (pss_one (ps_ret (pe_callB (call_min2 rfl) (by rfl) T.min boot_min (pa_cons (pv 0) (pa_cons (pv 1) pa_nil)))))), ?_⟩
    cases a with
    | none =>
      refine ⟨_, rfl, rfl, _, rfl, ?_⟩
      refine ⟨_, rfl, rfl, _, rfl, ?_⟩
      exact ⟨_, rfl, q⟩
    | some a =>
      refine ⟨_, rfl, rfl, _, rfl, ?_⟩
      cases b with
      | none =>
        refine ⟨_, rfl, rfl, _, rfl, ?_⟩
        refine ⟨_, rfl, rfl, _, rfl, ?_⟩
        exact ⟨_, rfl, q⟩
      | some b =>
        refine ⟨_, rfl, rfl, _, rfl, ?_⟩
        refine ⟨_, rfl, _, rfl, _, _, rfl, ?_⟩
        have e : (if b < a then b else a) = min a b := by
          by_cases h : b < a
          · rw [if_pos h]; omega
          · rw [if_neg h]; omega
        rw [e]
        exact q

/-! is_between, is_count -/
def sp_is_between : Sp := fun vs H Q _ => ∃ n lo hi : Int, vs = [.int n, .int lo, .int hi] ∧ Q (.bl (decide (lo ≤ n ∧ n ≤ hi))) H
theorem ok_is_between (T : Tx mg) (D : Def K mg "is_between" s_is_between) : Cal P w K mg base CX0 "is_between" 1 ["thing", "low", "high"] sp_is_between := by
  obtain ⟨f, fd, F, hm⟩ := D.ex
  refine ⟨f, fd, F.ok sc_is_between (fun vs H Q E h => ?_) (fun cdv A outer s H vs Q E hr h => ?_), hm, F.kp, F.binds fun _ _ _ _ _ _ us hl => match us, hl with | [_, _, _], _ => rfl⟩
  · obtain ⟨n, lo, hi, rfl, _⟩ := h
    rfl
  · obtain ⟨n, lo, hi, rfl, q⟩ := h
    refine ⟨_, (pss_one (ps_ret (pe_and (pe_callB (kc_isi K) (by rfl) T.isinstance boot_isinstance (pa_cons (pv 0) (pa_cons (pe_bltn (v := .ty "int") (by rfl) T.int boot_int rfl) pa_nil))) (pe_and (pe_not (pe_callB (kc_isi K) (by rfl) T.isinstance boot_isinstance (pa_cons (pv 0) (pa_cons (pe_bltn (v := .ty "bool") (by rfl) T.bool boot_bool rfl) pa_nil)))) (pe_one (pe_chain op_le op_le (pv 1) (pv 0) (pv 2))))))), ?_⟩
    refine ⟨_, rfl, _, _, _, _, _, rfl, .ty _, .base (.int _), kit_ii, _, rfl, ?_⟩
    refine iteT ?_
    refine ⟨_, rfl, _, _, _, _, _, rfl, .ty _, .base (.int _), kit_ib, _, rfl, _, rfl, ?_⟩
    refine iteT ?_
    refine ⟨_, rfl, _, rfl, _, _, rfl, rfl, _, rfl, ?_⟩
    by_cases h1 : lo ≤ n
    · rw [if_pos (decide_eq_true h1)]
      refine ⟨_, rfl, _, _, rfl, rfl, ?_⟩
      have e : decide (n ≤ hi) = decide (lo ≤ n ∧ n ≤ hi) := by simp [h1]
      show Q (.bl (decide (n ≤ hi))) H
      rw [e]
      exact q
    · rw [if_neg (by simp [h1])]
      have e : false = decide (lo ≤ n ∧ n ≤ hi) := by simp [h1]
      show Q (.bl false) H
      rw [e]
      exact q
def sp_is_count : Sp := fun vs H Q _ => ∃ n : Int, vs = [.int n] ∧ Q (.bl (decide (0 ≤ n))) H
theorem ok_is_count (T : Tx mg) (D : Def K mg "is_count" s_is_count) : Cal P w K mg base CX0 "is_count" 1 ["thing"] sp_is_count := by
  obtain ⟨f, fd, F, hm⟩ := D.ex
  refine ⟨f, fd, F.ok sc_is_count (fun vs H Q E h => ?_) (fun cdv A outer s H vs Q E hr h => ?_), hm, F.kp, F.binds fun _ _ _ _ _ _ us hl => match us, hl with | [_], _ => rfl⟩
  · obtain ⟨n, rfl, _⟩ := h
    rfl
  · obtain ⟨n, rfl, q⟩ := h
    refine ⟨_, (pss_one (ps_ret (pe_and (pe_callB (kc_isi K) (by rfl) T.isinstance boot_isinstance (pa_cons (pv 0) (pa_cons (pe_bltn (v := .ty "int") (by rfl) T.int boot_int rfl) pa_nil))) (pe_and (pe_not (pe_callB (kc_isi K) (by rfl) T.isinstance boot_isinstance (pa_cons (pv 0) (pa_cons (pe_bltn (v := .ty "bool") (by rfl) T.bool boot_bool rfl) pa_nil)))) (pe_one (pe_cmpR op_ge (pv 0) pe_int (nomark _))))))), ?_⟩
    refine ⟨_, rfl, _, _, _, _, _, rfl, .ty _, .base (.int _), kit_ii, _, rfl, ?_⟩
    refine iteT ?_
    refine ⟨_, rfl, _, _, _, _, _, rfl, .ty _, .base (.int _), kit_ib, _, rfl, _, rfl, ?_⟩
    refine iteT ?_
    exact ⟨_, rfl, _, _, rfl, rfl, q⟩
end
end Cp
end

section
set_option Elab.async false
set_option linter.all false
set_option maxRecDepth 100000
set_option maxHeartbeats 4000000
namespace Cp
open PySem PySem.Spec PyProof.Rows L2
/-! machines as data -/
def dN (i : Nat) : PyData := .int (i : Int)
def dIns (i : Ins) : PyData := .tuple [dN i.form, dN i.op, .tuple (i.args.map dN), .int i.price]
def dCv (c : Cv) : PyData := .tuple [dN c.first, dN c.last, .int c.price]
def dM (m : Mach) : PyData := .tuple [.tuple (m.ar.map dN), dN m.n, .tuple (m.ins.map dIns), .tuple (m.cv.map dCv)]
/-- a machine's parts -/
structure MV (H : Hp) (v : V) (m : Mach) (p pa pi pc : Addr) (ai ac : List V) : Prop where
  e : v = .ref p
  at0 : H p = some (.tup [.ref pa, .int (m.n : Int), .ref pi, .ref pc])
  at1 : H pa = some (.tup (m.ar.map fun i => V.int (i : Nat)))
  at2 : H pi = some (.tup ai)
  at3 : H pc = some (.tup ac)
  ri : RDs H ai (m.ins.map dIns)
  rc : RDs H ac (m.cv.map dCv)
theorem rds_n {H : Hp} : ∀ (xs : List Nat), RDs H (xs.map fun i => V.int (i : Nat)) (xs.map dN)
  | [] => .nil
  | x :: r => .cons (.int _) (rds_n r)
theorem RDs.inv_n {H : Hp} : ∀ {vs : List V} {xs : List Nat}, RDs H vs (xs.map dN) → vs = xs.map fun i => V.int (i : Nat)
  | _, [], .nil => rfl
  | _, x :: r, .cons h q => by rw [h.inv_int, q.inv_n]; rfl
theorem RD.mv {H : Hp} {v : V} {m : Mach} (h : RD H v (dM m)) : ∃ p pa pi pc ai ac, MV H v m p pa pi pc ai ac := by
  obtain ⟨p, xs, rfl, e, r⟩ := h.inv_tup
  cases r with
  | cons h1 r =>
    cases r with
    | cons h2 r =>
      cases r with
      | cons h3 r =>
        cases r with
        | cons h4 r =>
          cases r
          obtain ⟨pa, _, rfl, e1, r1⟩ := h1.inv_tup
          obtain ⟨pi, ai, rfl, e2, r2⟩ := h3.inv_tup
          obtain ⟨pc, ac, rfl, e3, r3⟩ := h4.inv_tup
          cases h2.inv_int
          cases r1.inv_n
          exact ⟨p, pa, pi, pc, ai, ac, rfl, e, e1, e2, e3, r2, r3⟩
theorem MV.rd {H : Hp} {v : V} {m : Mach} {p pa pi pc : Addr} {ai ac : List V} (h : MV H v m p pa pi pc ai ac) : RD H v (dM m) := by
  obtain ⟨rfl, e, e1, e2, e3, r2, r3⟩ := h
  exact .tup e (.cons (.tup e1 (rds_n _)) (.cons (.int _) (.cons (.tup e2 r2) (.cons (.tup e3 r3) .nil))))
theorem MV.ex {H H' : Hp} {v : V} {m : Mach} {p pa pi pc : Addr} {ai ac : List V} (h : MV H v m p pa pi pc ai ac) (t : Tu H H') : MV H' v m p pa pi pc ai ac :=
  ⟨h.e, t _ _ h.at0, t _ _ h.at1, t _ _ h.at2, t _ _ h.at3, h.ri.tu t, h.rc.tu t⟩
/-- a conversion's parts -/
theorem RD.cv {H : Hp} {v : V} {c : Cv} (h : RD H v (dCv c)) : ∃ a, v = .ref a ∧ H a = some (.tup [.int (c.first : Nat), .int (c.last : Nat), .int c.price]) := by
  obtain ⟨p, xs, rfl, e, r⟩ := h.inv_tup
  cases r with
  | cons h1 r =>
    cases r with
    | cons h2 r =>
      cases r with
      | cons h3 r =>
        cases r
        cases h1.inv_int
        cases h2.inv_int
        cases h3.inv_int
        exact ⟨p, rfl, e⟩
theorem RD.ins {H : Hp} {v : V} {i : Ins} (h : RD H v (dIns i)) : ∃ a b, v = .ref a ∧ H a = some (.tup [.int (i.form : Nat), .int (i.op : Nat), .ref b, .int i.price]) ∧ H b = some (.tup (i.args.map fun i => V.int (i : Nat))) := by
  obtain ⟨p, xs, rfl, e, r⟩ := h.inv_tup
  cases r with
  | cons h1 r =>
    cases r with
    | cons h2 r =>
      cases r with
      | cons h3 r =>
        cases r with
        | cons h4 r =>
          cases r
          cases h1.inv_int
          cases h2.inv_int
          cases h4.inv_int
          obtain ⟨pi, ai, rfl, e2, r2⟩ := h3.inv_tup
          cases r2.inv_n
          exact ⟨p, pi, rfl, e, e2⟩
theorem rds_at {H : Hp} {α : Type} {f : α → PyData} {xs : List α} {vs : List V} (r : RDs H vs (xs.map f)) {i : Nat} {x : V} (e : vs[i]? = some x) : ∃ a, xs[i]? = some a ∧ RD H x (f a) := by
  obtain ⟨d, e1, h⟩ := r.of e
  rw [List.getElem?_map] at e1
  cases q : xs[i]? with
  | none => rw [q] at e1; cases e1
  | some a =>
    rw [q] at e1
    cases e1
    exact ⟨a, rfl, h⟩
section
variable {P : Program} {w : World} {K : PySem.W.Frag} {mg : Str → Option Value} {base : Heap}
/-! total -/
def sp_total (K : PySem.W.Frag) : Sp := fun vs H Q _ => ∃ (a : Addr) (r : Row), vs = [.ref a] ∧ SqL K H a (r.map vO) ∧ Q (vO (osum r)) H
theorem ok_total (T : Tx mg) (D : Def K mg "total" s_total) : Cal P w K mg base CX0 "total" 1 ["some"] (sp_total K) := by
  obtain ⟨f, fd, F, hm⟩ := D.ex
  refine ⟨f, fd, F.ok sc_total (fun vs H Q E h => ?_) (fun cdv A outer s H vs Q E hr h => ?_), hm, F.kp, F.binds fun _ _ _ _ _ _ us hl => match us, hl with | [_], _ => rfl⟩
  · obtain ⟨a, r, rfl, _⟩ := h
    rfl
  · obtain ⟨a, r, rfl, hS, q⟩ := h
    refine ⟨_, (pss_one (ps_ret (pe_ifExp (pt_cmpR (ko_in K) pe_non (pv 0) (by rfl)) pe_non (pe_callB (cr_sum rfl) (by rfl) T.sum boot_sum (pa_cons (pv 0) pa_nil))))), ?_⟩
    refine ⟨.ref a, rfl, a, _, rfl, .inl hS, rfl, flats_vO r, _, rfl, ?_⟩
    show if inV .non (r.map vO) = true then _ else _
    rw [inV_non]
    by_cases h : none ∈ r
    · rw [if_pos (decide_eq_true h)]
      rw [osum_none h] at q
      exact q
    · rw [if_neg (by simp [h])]
      obtain ⟨ns, e1, e2⟩ := osum_some h
      subst e1
      rw [map_vO_some] at hS
      rw [e2] at q
      exact ⟨_, rfl, _, ns, rfl, hS, q⟩

/-! ways_of -/
/-- rows all new to H0 -/
def NewM (H0 H : Hp) (a : Addr) (as : List Addr) : Prop := Ex H0 H ∧ H0 a = none ∧ ∀ b ∈ as, H0 b = none
theorem NewM.put {H0 H : Hp} {a b : Addr} {as : List Addr} {i : Nat} {o : HO} (h : NewM H0 H a as) (hb : as[i]? = some b) : NewM H0 (upd H b o) a as :=
  ⟨h.1.mut (h.2.2 b (List.mem_of_getElem? hb)), h.2⟩
theorem NewM.newT {H0 H : Hp} {a b : Addr} {as : List Addr} {o : HO} (h : NewM H0 H a as) (hb : H b = none) : NewM H0 (upd H b o) a as := ⟨h.1.newT hb, h.2⟩
theorem Mat.newT {H : Hp} {a b : Addr} {as : List Addr} {ws : List Row} {o : HO} (h : Mat H a as ws) (hb : H b = none) : Mat (upd H b o) a as ws := h.ex (Ex.new hb)
theorem dim0 (n : Nat) : Dim n (List.replicate n (List.replicate n (none : Option Int))) := ⟨by simp, fun r hr => by rw [List.eq_of_mem_replicate hr]; simp⟩
theorem dim_itn {n : Nat} {f : Nat → List Row → List Row} (hf : ∀ i m, Dim n m → Dim n (f i m)) : ∀ (k : Nat) {m : List Row}, Dim n m → Dim n (itn f k m)
  | 0, _, d => d
  | k + 1, _, d => hf k _ (dim_itn hf k d)
theorem dim_fold {n : Nat} {α : Type} {f : List Row → α → List Row} (hf : ∀ m x, Dim n m → Dim n (f m x)) : ∀ (l : List α) {m : List Row}, Dim n m → Dim n (l.foldl f m)
  | [], _, d => d
  | x :: l, _, d => dim_fold hf l (hf _ x d)
theorem dim_wofT {n : Nat} (a f l : Nat) {m : List Row} (d : Dim n m) : Dim n (wofT a f l m) := d.mset _ _ _
theorem dim_wof0 (n : Nat) : Dim n (wof0 n) := dim_itn (fun i m d => d.mset _ _ _) n (dim0 n)
theorem dim_wofC {n : Nat} (cv : List Cv) {m : List Row} (d : Dim n m) : Dim n (wofC cv m) := dim_fold (fun m c d => d.mset _ _ _) cv d
theorem dim_wof (n : Nat) (cv : List Cv) : Dim n (wof n cv) :=
  dim_itn (fun a m d => dim_itn (fun f m d => dim_itn (fun l m d => dim_wofT a f l d) n d) n d) n (dim_wofC cv (dim_wof0 n))
theorem wofC_take {cv : List Cv} {i : Nat} {c : Cv} (h : cv[i]? = some c) (m : List Row) : wofC (cv.take (i + 1)) m = mset (wofC (cv.take i) m) c.first c.last (oless (mget (wofC (cv.take i) m) c.first c.last) (some c.price)) := by
  have hi : i < cv.length := (List.getElem?_eq_some_iff.mp h).1
  rw [List.take_succ, h]
  unfold wofC
  rw [List.foldl_append]
  rfl
def sp_ways_of : Sp := fun vs H Q _ => ∃ (v : V) (m : Mach), vs = [v] ∧ RD H v (dM m) ∧ m.n ≤ 4 ∧ (∀ c ∈ m.cv, c.first < m.n ∧ c.last < m.n) ∧ ∀ (a : Addr) (as : List Addr) (H' : Hp), Ex H H' → Mat H' a as (wof m.n m.cv) → Dim m.n (wof m.n m.cv) → Q (.ref a) H'
theorem ok_ways_of (T : Tx mg) (D : Def K mg "ways_of" s_ways_of) (C_less : Cal P w K mg base CX0 "less" 1 ["one", "other"] sp_less) (C_total : Cal P w K mg base CX0 "total" 1 ["some"] (sp_total K)) : Cal P w K mg base CX0 "ways_of" 2 ["machine"] sp_ways_of := by
  obtain ⟨f, fd, F, hm⟩ := D.ex
  refine ⟨f, fd, F.ok sc_ways_of (fun vs H Q E h => ?_) (fun cdv A outer s H vs Q E hr h => ?_), hm, F.kp, F.binds fun _ _ _ _ _ _ us hl => match us, hl with | [_], _ => rfl⟩
  · obtain ⟨v, m, rfl, _⟩ := h
    rfl
  · obtain ⟨v, m, rfl, hM, hn, hc, q⟩ := h
    obtain ⟨p, pa, pi, pc, ai, ac, M⟩ := hM.mv
    cases M.e
    refine ⟨_, (pss_cons (ps_setLc (i := 1) (own := [("form", 2)]) rfl sc_ways_of.nd rfl rfl (sw_true rfl rfl rfl (by decide +kernel)) (pi_range1 (by rfl) T.range (pa_cons (pe_ix (kx_tup K) (pv 0) pe_int (fun _ _ => rfl)) pa_nil)) (blkOk_by (own := [("form", 2)]) (N := ["machine", "found", "form", "first", "last", "price", "amid", "by_amid"]) (sc := defScope s_ways_of) (by decide +kernel)) (fun _ _ _ _ _ => (pg_name (i := 2) sc_ways_of.nd rfl (by first | exact .inl rfl | exact .inr rfl))) (fun _ _ _ _ _ => pts_nil) (fun _ _ _ _ _ => (pe_op op_rep (pe_lst (pa_cons pe_non pa_nil)) (pe_ix (kx_tup K) (pv 0) pe_int (fun _ _ => rfl)))))
  (pss_cons (ps_for PassesOwn.never rfl (pi_range1 (by rfl) T.range (pa_cons (pe_ix (kx_tup K) (pv 0) pe_int (fun _ _ => rfl)) pa_nil)) (pg_name (i := 2) sc_ways_of.nd rfl (by first | exact .inl rfl | exact .inr rfl))
  (pss_one (ps_asg pe_int (pg_sub (pe_ix (kx_list K) (pv 1) (pv 2) (fun _ _ => rfl)) (pv 2) set_list))))
  (pss_cons (ps_for PassesOwn.never rfl (ki_tup K (pe_ix (kx_tup K) (pv 0) pe_int (fun _ _ => rfl))) (kg_tup K (n := 3) rfl (pgs_cons (pg_name (i := 3) sc_ways_of.nd rfl (by first | exact .inl rfl | exact .inr rfl)) (pgs_cons (pg_name (i := 4) sc_ways_of.nd rfl (by first | exact .inl rfl | exact .inr rfl)) (pgs_cons (pg_name (i := 5) sc_ways_of.nd rfl (by first | exact .inl rfl | exact .inr rfl)) pgs_nil))))
  (pss_one (ps_asg (pe_cal C_less (by first | exact hr | exact hr.mono (by decide)) (by rfl) pass0 (pa_cons (pe_ix (kx_list K) (pe_ix (kx_list K) (pv 1) (pv 3) (fun _ _ => rfl)) (pv 4) (fun _ _ => rfl)) (pa_cons (pv 5) pa_nil))) (pg_sub (pe_ix (kx_list K) (pv 1) (pv 3) (fun _ _ => rfl)) (pv 4) set_list))))
  (pss_cons (ps_for PassesOwn.never rfl (pi_range1 (by rfl) T.range (pa_cons (pe_ix (kx_tup K) (pv 0) pe_int (fun _ _ => rfl)) pa_nil)) (pg_name (i := 6) sc_ways_of.nd rfl (by first | exact .inl rfl | exact .inr rfl))
  (pss_one (ps_for PassesOwn.never rfl (pi_range1 (by rfl) T.range (pa_cons (pe_ix (kx_tup K) (pv 0) pe_int (fun _ _ => rfl)) pa_nil)) (pg_name (i := 3) sc_ways_of.nd rfl (by first | exact .inl rfl | exact .inr rfl))
  (pss_one (ps_for PassesOwn.never rfl (pi_range1 (by rfl) T.range (pa_cons (pe_ix (kx_tup K) (pv 0) pe_int (fun _ _ => rfl)) pa_nil)) (pg_name (i := 4) sc_ways_of.nd rfl (by first | exact .inl rfl | exact .inr rfl))
  (pss_cons (ps_set (i := 7) sc_ways_of.nd rfl (by first | exact .inl rfl | exact .inr rfl) (pe_cal C_total (by first | exact hr | exact hr.mono (by decide)) (by rfl) pass0 (pa_cons (pe_lst (pa_cons (pe_ix (kx_list K) (pe_ix (kx_list K) (pv 1) (pv 3) (fun _ _ => rfl)) (pv 6) (fun _ _ => rfl)) (pa_cons (pe_ix (kx_list K) (pe_ix (kx_list K) (pv 1) (pv 6) (fun _ _ => rfl)) (pv 4) (fun _ _ => rfl)) pa_nil))) pa_nil)))
  (pss_one (ps_asg (pe_cal C_less (by first | exact hr | exact hr.mono (by decide)) (by rfl) pass0 (pa_cons (pe_ix (kx_list K) (pe_ix (kx_list K) (pv 1) (pv 3) (fun _ _ => rfl)) (pv 4) (fun _ _ => rfl)) (pa_cons (pv 7) pa_nil))) (pg_sub (pe_ix (kx_list K) (pv 1) (pv 3) (fun _ _ => rfl)) (pv 4) set_list)))))))))
  (pss_one (ps_ret (pv 1))))))), ?_⟩
    have hn' : (m.n : Int) < 2 ^ 62 := by omega
    have len : ∀ i, (List.replicate i (.non : V)) = (List.replicate i (none : Option Int)).map vO := fun i => by rw [List.map_replicate]; rfl
    -- [[None] * n for form in range(n)]
    refine ⟨_, rfl, p, _, 1, _, rfl, rfl, SqT.of M.at0, rfl, _, rfl, by omega, hn', fun D hD => ?_⟩
    refine lc_it walk_rn (fun i H' => ∃ as : List Addr, Mat H' D as (List.replicate i (List.replicate m.n none)) ∧ NewM H H' D as) ⟨[], ⟨by rw [upd_same]; rfl, rfl, List.nodup_nil, by simp, by simp⟩, Ex.new hD, hD, by simp⟩ (fun _ _ _ _ => trivial) (fun i x _ H1 hi hP hy => ?_) (fun H1 hP => ?_)
    · obtain ⟨rfl, rfl⟩ := hy
      refine ⟨rfl, ?_⟩
      obtain ⟨as, mt, ex, nD, na⟩ := hP
      have M1 := M.ex ex.tu
      refine ⟨by decide, fun l hl => ⟨_, rfl, p, _, 1, _, rfl, rfl, SqT.of (by rw [upd_ne (ne_of_none M1.at0 hl)]; exact M1.at0), rfl, l, _, _, rfl, rfl, upd_same, by omega, by omega, by simp [sizeLine]; omega, fun b hb => ?_⟩⟩
      have hb1 : H1 b = none := by
        cases z : H1 b with
        | none => rfl
        | some o => rw [upd_ne (ne_of_none z hl), z] at hb; cases hb
      have hDl : D ≠ l := ne_of_none mt.at' hl
      have hDb : D ≠ b := ne_of_none mt.at' hb1
      refine ⟨_, by rw [upd_ne hDb, upd_ne hDl]; exact mt.at', by rw [List.length_map, mt.len, List.length_replicate]; simp [sizeLine]; omega, as ++ [b], ?_, ?_, nD, ?_⟩
      · rw [List.replicate_succ']
        refine mt.snoc (fun c o hc ho => ?_) hb1 ?_ upd_same
        · rw [upd_ne hc, upd_ne (ne_of_none ho hb1), upd_ne (ne_of_none ho hl)]
          exact ho
        · rw [upd_ne hDb.symm, upd_same]
          simp [List.map_replicate, vO]
      · exact Ex.mut (Ex.newT (Ex.newT ex hl) hb) nD
      · intro c hc
        rcases List.mem_append.mp hc with hc | hc
        · exact na c hc
        · rw [List.mem_singleton.mp hc]
          exact ex.free hb1
    · obtain ⟨as, mt0, nw0⟩ := hP
      have M1 := M.ex nw0.1.tu
      -- found[form][form] = 0
      refine ⟨_, rfl, p, _, 1, _, rfl, rfl, SqT.of M1.at0, rfl, _, rfl, by omega, hn', ?_⟩
      refine for_it walk_rn (fun i σ H' => (∃ x2 x3 x4 x5 x6 x7, σ = [some (.ref p), some (.ref D), x2, x3, x4, x5, x6, x7]) ∧ Mat H' D as (itn (fun i m => mset m i i (some 0)) i (List.replicate m.n (List.replicate m.n none))) ∧ NewM H H' D as) ⟨⟨_, _, _, _, _, _, rfl⟩, mt0, nw0⟩ (fun _ _ _ _ _ => trivial) (fun i x σ _ H1 hi hP hy => ?_) (fun σ H1 hP => ?_)
      · obtain ⟨rfl, rfl⟩ := hy
        obtain ⟨⟨x2, x3, x4, x5, x6, x7, rfl⟩, mt, nw⟩ := hP
        have d := dim_itn (f := fun i m => mset m i i (some 0)) (fun i m d => d.mset _ _ _) i (dim0 m.n)
        obtain ⟨b, r, e1, e2, e3, e4, e5, e6⟩ := mt.get d hi
        refine ⟨_, rfl, _, rfl, D, _, _, _, rfl, rfl, .of mt.at', e6, _, rfl, b, _, _, i, rfl, rfl, e5, ?_, ⟨_, _, _, _, _, _, rfl⟩, mt.put e1 e2 i (some 0), nw.put e1⟩
        rw [List.length_map, e3]
        exact ixN_nat hi
      · obtain ⟨⟨x2, x3, x4, x5, x6, x7, rfl⟩, mt0, nw0⟩ := hP
        have M1 := M.ex nw0.1.tu
        have d0 := dim_wof0 m.n
        -- the conversions
        refine ⟨_, rfl, p, _, 3, _, rfl, rfl, SqT.of M1.at0, rfl, pc, rfl, ⟨ac, SqT.of M1.at3⟩, ?_⟩
        refine for_it (walk_tup (xs := ac)) (fun i σ H' => (∃ x2 x3 x4 x5 x6 x7, σ = [some (.ref p), some (.ref D), x2, x3, x4, x5, x6, x7]) ∧ Mat H' D as (wofC (m.cv.take i) (wof0 m.n)) ∧ NewM H H' D as) ⟨⟨_, _, _, _, _, _, rfl⟩, mt0, nw0⟩ (fun i σ H1 _ hP => SqT.of (hP.2.2.1 _ _ M.at3)) (fun i x σ _ H1 hi hP hy => ?_) (fun σ H1 hP => ?_)
        · obtain ⟨rfl, hx⟩ := hy
          obtain ⟨⟨x2, x3, x4, x5, x6, x7, rfl⟩, mt, nw⟩ := hP
          have M1 := M.ex nw.1.tu
          obtain ⟨c, hcv, hrd⟩ := rds_at M1.rc hx
          obtain ⟨tc, rfl, htc⟩ := hrd.cv
          obtain ⟨h1, h2⟩ := hc c (List.mem_of_getElem? hcv)
          have d := dim_wofC (m.cv.take i) d0
          obtain ⟨b, r, e1, e2, e3, e4, e5, e6⟩ := mt.get d h1
          have hl : c.last < r.length := by rw [e3]; exact h2
          have mg : mget (wofC (m.cv.take i) (wof0 m.n)) c.first c.last = r.getD c.last none := by unfold mget; rw [e4]
          refine ⟨tc, _, rfl, SqT.of htc, rfl, _, _, rfl, _, _, rfl, _, _, rfl, rfl, ?_⟩
          refine ⟨_, rfl, _, rfl, D, _, _, _, rfl, rfl, .of mt.at', e6, _, rfl, b, _, _, _, rfl, rfl, .of e5, atI_nat (vO_at hl), _, rfl, _, some c.price, rfl, ?_⟩
          refine ⟨_, rfl, _, rfl, D, _, _, _, rfl, rfl, .of mt.at', e6, _, rfl, b, _, _, c.last, rfl, rfl, e5, ?_, ⟨_, _, _, _, _, _, rfl⟩, ?_, nw.put e1⟩
          · rw [List.length_map, e3]
            exact ixN_nat h2
          · rw [wofC_take hcv, mg]
            exact mt.put e1 e2 _ _
        · obtain ⟨⟨x2, x3, x4, x5, x6, x7, rfl⟩, mt0, nw0⟩ := hP
          have M1 := M.ex nw0.1.tu
          rw [List.take_of_length_le (by have := M.rc.length; rw [List.length_map] at this; omega)] at mt0
          have d1 := dim_wofC m.cv d0
          -- amid
          refine ⟨_, rfl, p, _, 1, _, rfl, rfl, SqT.of M1.at0, rfl, _, rfl, by omega, hn', ?_⟩
          refine for_it walk_rn (fun i σ H' => (∃ x2 x3 x4 x5 x6 x7, σ = [some (.ref p), some (.ref D), x2, x3, x4, x5, x6, x7]) ∧ Mat H' D as (itn (fun a m1 => itn (fun f m1 => itn (fun l m1 => wofT a f l m1) m.n m1) m.n m1) i (wofC m.cv (wof0 m.n))) ∧ NewM H H' D as) ⟨⟨_, _, _, _, _, _, rfl⟩, mt0, nw0⟩ (fun _ _ _ _ _ => trivial) (fun a x σ _ H2 ha hP hy => ?_) (fun σ H2 hP => ?_)
          · obtain ⟨rfl, rfl⟩ := hy
            obtain ⟨⟨x2, x3, x4, x5, x6, x7, rfl⟩, mt1, nw1⟩ := hP
            have M2 := M.ex nw1.1.tu
            have d2 := dim_itn (f := fun a m1 => itn (fun f m1 => itn (fun l m1 => wofT a f l m1) m.n m1) m.n m1) (fun a m1 d => dim_itn (fun f m1 d => dim_itn (fun l m1 d => dim_wofT a f l d) _ d) _ d) a d1
            generalize hwa : itn (fun a m1 => itn (fun f m1 => itn (fun l m1 => wofT a f l m1) m.n m1) m.n m1) a (wofC m.cv (wof0 m.n)) = wa at mt1 d2
            -- first
            refine ⟨_, rfl, p, _, 1, _, rfl, rfl, SqT.of M2.at0, rfl, _, rfl, by omega, hn', ?_⟩
            refine for_it walk_rn (fun i σ H' => (∃ x2 x3 x4 x5 x7, σ = [some (.ref p), some (.ref D), x2, x3, x4, x5, some (.int (a : Nat)), x7]) ∧ Mat H' D as (itn (fun f m1 => itn (fun l m1 => wofT a f l m1) m.n m1) i wa) ∧ NewM H H' D as) ⟨⟨_, _, _, _, _, rfl⟩, mt1, nw1⟩ (fun _ _ _ _ _ => trivial) (fun f x σ _ H3 hf hP hy => ?_) (fun σ H3 hP => ?_)
            · obtain ⟨rfl, rfl⟩ := hy
              obtain ⟨⟨x2, x3, x4, x5, x7, rfl⟩, mt2, nw2⟩ := hP
              have M3 := M.ex nw2.1.tu
              have d3 := dim_itn (f := fun f m1 => itn (fun l m1 => wofT a f l m1) m.n m1) (fun f m1 d => dim_itn (fun l m1 d => dim_wofT a f l d) _ d) f d2
              generalize hwf : itn (fun f m1 => itn (fun l m1 => wofT a f l m1) m.n m1) f wa = wf at mt2 d3
              -- last
              refine ⟨_, rfl, p, _, 1, _, rfl, rfl, SqT.of M3.at0, rfl, _, rfl, by omega, hn', ?_⟩
              refine for_it walk_rn (fun i σ H' => (∃ x2 x4 x5 x7, σ = [some (.ref p), some (.ref D), x2, some (.int (f : Nat)), x4, x5, some (.int (a : Nat)), x7]) ∧ Mat H' D as (itn (fun l m1 => wofT a f l m1) i wf) ∧ NewM H H' D as) ⟨⟨_, _, _, _, rfl⟩, mt2, nw2⟩ (fun _ _ _ _ _ => trivial) (fun l x σ _ H4 hl hP hy => ?_) (fun σ H4 hP => ?_)
              · obtain ⟨rfl, rfl⟩ := hy
                obtain ⟨⟨x2, x4, x5, x7, rfl⟩, mt3, nw3⟩ := hP
                have d4 := dim_itn (f := fun l m1 => wofT a f l m1) (fun l m1 d => dim_wofT a f l d) l d3
                show _
                rw [show itn (fun l m1 => wofT a f l m1) (l + 1) wf = wofT a f l (itn (fun l m1 => wofT a f l m1) l wf) from rfl]
                generalize itn (fun l m1 => wofT a f l m1) l wf = wl at mt3 d4 ⊢
                obtain ⟨b, r, e1, e2, e3, e4, e5, e6⟩ := mt3.get d4 hf
                obtain ⟨b', r', g1, g2, g3, g4, g5, g6⟩ := mt3.get d4 ha
                have k1 : mget wl f a = r.getD a none := by unfold mget; rw [e4]
                have k2 : mget wl a l = r'.getD l none := by unfold mget; rw [g4]
                have k3 : mget wl f l = r.getD l none := by unfold mget; rw [e4]
                -- by_amid
                refine ⟨_, rfl, _, rfl, D, _, _, _, rfl, rfl, .of mt3.at', e6, _, rfl, b, _, _, _, rfl, rfl, .of e5, atI_nat (vO_at (by omega)), ?_⟩
                refine ⟨_, rfl, _, rfl, D, _, _, _, rfl, rfl, .of mt3.at', g6, _, rfl, b', _, _, _, rfl, rfl, .of g5, atI_nat (vO_at (by omega)), by simp [sizeLine], fun z hz => ?_⟩
                have mt4 := mt3.newT (o := .lst [vO (r.getD a none), vO (r'.getD l none)]) hz
                have nw4 := nw3.newT (o := .lst [vO (r.getD a none), vO (r'.getD l none)]) hz
                refine ⟨z, [r.getD a none, r'.getD l none], rfl, .of upd_same, ?_⟩
                have e5' : upd H4 z (.lst [vO (r.getD a none), vO (r'.getD l none)]) b = some (.lst (r.map vO)) := by rw [upd_ne (ne_of_none e5 hz)]; exact e5
                refine ⟨_, rfl, _, rfl, D, _, _, _, rfl, rfl, .of mt4.at', e6, _, rfl, b, _, _, _, rfl, rfl, .of e5', atI_nat (vO_at (by omega)), _, rfl, _, osum [r.getD a none, r'.getD l none], rfl, ?_⟩
                refine ⟨_, rfl, _, rfl, D, _, _, _, rfl, rfl, .of mt4.at', e6, _, rfl, b, _, _, l, rfl, rfl, e5', ?_, ⟨_, _, _, _, rfl⟩, ?_, nw4.put e1⟩
                · rw [List.length_map, e3]
                  exact ixN_nat hl
                · unfold wofT
                  rw [k1, k2, k3]
                  exact mt4.put e1 e2 _ _
              · obtain ⟨⟨x2, x4, x5, x7, rfl⟩, mt3, nw3⟩ := hP
                refine ⟨⟨_, _, _, _, _, rfl⟩, ?_, nw3⟩
                show Mat _ _ _ (itn (fun l m1 => wofT a f l m1) m.n (itn (fun f m1 => itn (fun l m1 => wofT a f l m1) m.n m1) f wa))
                rw [hwf]
                exact mt3
            · obtain ⟨⟨x2, x3, x4, x5, x7, rfl⟩, mt2, nw2⟩ := hP
              refine ⟨⟨_, _, _, _, _, _, rfl⟩, ?_, nw2⟩
              show Mat _ _ _ (itn (fun f m1 => itn (fun l m1 => wofT a f l m1) m.n m1) m.n (itn (fun a m1 => itn (fun f m1 => itn (fun l m1 => wofT a f l m1) m.n m1) m.n m1) a (wofC m.cv (wof0 m.n))))
              rw [hwa]
              exact mt2
          · obtain ⟨⟨x2, x3, x4, x5, x6, x7, rfl⟩, mt1, nw1⟩ := hP
            exact ⟨_, rfl, q D as H2 nw1.1 mt1 (dim_wof _ _)⟩
end
end Cp
end

section
set_option Elab.async false
set_option linter.all false
set_option maxRecDepth 100000
set_option maxHeartbeats 4000000
namespace Cp
open PySem PySem.Spec PyProof.Rows L2
theorem RD.row {H : Hp} {v : V} {r : Row} (h : RD H v (dS r)) : ∃ a, v = .ref a ∧ H a = some (.tup (r.map vO)) := by
  obtain ⟨a, xs, rfl, e, q⟩ := h.inv_tup
  rw [q.inv_o] at e
  exact ⟨a, rfl, e⟩
theorem rd_row {H : Hp} {a : Addr} {r : Row} (e : H a = some (.tup (r.map vO))) : RD H (.ref a) (dS r) := .tup e (rds_o r)
theorem computedS_len (op : Nat) (rows : List Row) (i : Ins) (fd : Row) : (computedS op rows i fd).length = fd.length := by
  unfold computedS
  split <;> simp
theorem computedF_take {n : Nat} {ins : List Ins} {k : Nat} {i : Ins} {op : Nat} {rows : List Row} (h : ins[k]? = some i) : computedF n (ins.take (k + 1)) op rows = computedS op rows i (computedF n (ins.take k) op rows) := by
  rw [List.take_succ, h]
  unfold computedF
  rw [List.foldl_append]
  rfl
theorem computedF_len (n : Nat) (ins : List Ins) (op : Nat) (rows : List Row) : (computedF n ins op rows).length = n := by
  unfold computedF
  suffices ∀ fd : Row, (ins.foldl (fun fd i => computedS op rows i fd) fd).length = fd.length by rw [this]; simp
  induction ins with
  | nil => intro fd; rfl
  | cons i r ih =>
    intro fd
    rw [List.foldl_cons, ih, computedS_len]
section
variable {P : Program} {w : World} {K : PySem.W.Frag} {mg : Str → Option Value} {base : Heap}
/-! computed -/
def sp_computed (K : PySem.W.Frag) : Sp := fun vs H Q _ => ∃ (v : V) (m : Mach) (op : Nat) (rl : Addr) (xs : List V) (rows : List Row), vs = [v, .int (op : Nat), .ref rl] ∧ RD H v (dM m) ∧ m.Ok ∧ SqL K H rl xs ∧ RDs H xs (rows.map dS) ∧ (∀ r ∈ rows, r.length = m.n) ∧
  ∀ (l : Addr) (H' : Hp), Ex H H' → H' l = some (.lst ((computedF m.n m.ins op rows).map vO)) → Q (.ref l) H'
theorem ok_computed (T : Tx mg) (D : Def K mg "computed" s_computed) (C_less : Cal P w K mg base CX0 "less" 1 ["one", "other"] sp_less) (C_total : Cal P w K mg base CX0 "total" 1 ["some"] (sp_total K)) : Cal P w K mg base CX0 "computed" 2 ["machine", "operator", "rows"] (sp_computed K) := by
  obtain ⟨f, fd, F, hm⟩ := D.ex
  refine ⟨f, fd, F.ok sc_computed (fun vs H Q E h => ?_) (fun cdv A outer s H vs Q E hr h => ?_), hm, F.kp, F.binds fun _ _ _ _ _ _ us hl => match us, hl with | [_, _, _], _ => rfl⟩
  · obtain ⟨v, m, op, rl, xs, rows, rfl, _⟩ := h
    rfl
  · obtain ⟨v, m, op, rl, xs, rows, rfl, hM, ok, hS, hR, hrl, q⟩ := h
    obtain ⟨p, pa, pi, pc, ai, ac, M⟩ := hM.mv
    cases M.e
    refine ⟨_, (pss_cons (ps_set (i := 3) sc_computed.nd rfl (by first | exact .inl rfl | exact .inr rfl) (pe_op op_rep (pe_lst (pa_cons pe_non pa_nil)) (pe_ix (kx_tup K) (pv 0) pe_int (fun _ _ => rfl))))
  (pss_cons (ps_for PassesOwn.never rfl (ki_tup K (pe_ix (kx_tup K) (pv 0) pe_int (fun _ _ => rfl))) (kg_tup K (n := 4) rfl (pgs_cons (pg_name (i := 4) sc_computed.nd rfl (by first | exact .inl rfl | exact .inr rfl)) (pgs_cons (pg_name (i := 5) sc_computed.nd rfl (by first | exact .inl rfl | exact .inr rfl)) (pgs_cons (pg_name (i := 6) sc_computed.nd rfl (by first | exact .inl rfl | exact .inr rfl)) (pgs_cons (pg_name (i := 7) sc_computed.nd rfl (by first | exact .inl rfl | exact .inr rfl)) pgs_nil)))))
  (pss_one (ps_if (pt_cmpR op_eq (pv 5) (pv 1) (nomark _)) (pss_cons (ps_setLc (i := 8) (own := [("row", 9), ("argument", 10)]) rfl sc_computed.nd rfl rfl (sw_true rfl rfl rfl (by decide +kernel)) (pi_zipLT (by rfl) T.zip (pa_cons (pv 2) (pa_cons (pv 6) pa_nil))) (blkOk_by (own := [("row", 9), ("argument", 10)]) (N := ["machine", "operator", "rows", "found", "form", "its_operator", "arguments", "price", "parts", "row", "argument"]) (sc := defScope s_computed) (by decide +kernel)) (fun _ _ _ _ _ => (kg_tup K (n := 2) rfl (pgs_cons (pg_name (i := 9) sc_computed.nd rfl (by first | exact .inl rfl | exact .inr rfl)) (pgs_cons (pg_name (i := 10) sc_computed.nd rfl (by first | exact .inl rfl | exact .inr rfl)) pgs_nil)))) (fun _ _ _ _ _ => pts_nil) (fun _ _ _ _ _ => (pe_ix (kx_tup K) (pv 9) (pv 10) (fun _ _ => rfl))))
  (pss_one (ps_asg (pe_cal C_less (by first | exact hr | exact hr.mono (by decide)) (by rfl) pass0 (pa_cons (pe_ix (kx_list K) (pv 3) (pv 4) (fun _ _ => rfl)) (pa_cons (pe_cal C_total (by first | exact hr | exact hr.mono (by decide)) (by rfl) pass0 (pa_cons (pe_op op_cat (pe_lst (pa_cons (pv 7) pa_nil)) (pv 8)) pa_nil)) pa_nil))) (pg_sub (pv 3) (pv 4) set_list)))) pss_nil)))
  (pss_one (ps_ret (pv 3))))), ?_⟩
    have n4 := ok.n4
    refine ⟨by decide, fun z hz => ⟨_, rfl, p, _, 1, _, rfl, rfl, SqT.of (by rw [upd_ne (ne_of_none M.at0 hz)]; exact M.at0), rfl, z, _, _, rfl, rfl, upd_same, by omega, by omega, by simp [sizeLine]; omega, fun l hl => ?_⟩⟩
    have hl0 : H l = none := (Ex.new hz).free hl
    have ex0 : Ex H (upd (upd H z (.lst [.non])) l (.lst (List.replicate ((m.n : Int)).toNat [V.non]).flatten)) := Ex.newT (Ex.new hz) hl
    refine ⟨_, rfl, p, _, 2, _, rfl, rfl, SqT.of (ex0 _ _ M.at0), rfl, pi, rfl, ⟨ai, SqT.of (ex0 _ _ M.at2)⟩, ?_⟩
    refine for_it (walk_tup (xs := ai)) (fun i σ H' => (∃ x4 x5 x6 x7 x8 x9 x10, σ = [some (.ref p), some (.int (op : Nat)), some (.ref rl), some (.ref l), x4, x5, x6, x7, x8, x9, x10]) ∧ Ex H H' ∧ H' l = some (.lst ((computedF m.n (m.ins.take i) op rows).map vO))) ⟨⟨_, _, _, _, _, _, _, rfl⟩, ex0, ?_⟩ (fun i σ H1 _ hP => SqT.of (hP.2.1 _ _ M.at2)) (fun i x σ _ H1 hi hP hy => ?_) (fun σ H1 hP => ?_)
    · rw [upd_same]
      simp [computedF, List.map_replicate, vO]
    · obtain ⟨rfl, hx⟩ := hy
      obtain ⟨⟨x4, x5, x6, x7, x8, x9, x10, rfl⟩, ex, hl1⟩ := hP
      obtain ⟨i1, hi1, hrd⟩ := rds_at (M.ri.ex ex) hx
      obtain ⟨t1, t2, rfl, ht1, ht2⟩ := hrd.ins
      have oki := ok.ins i1 (List.mem_of_getElem? hi1)
      refine ⟨t1, _, rfl, SqT.of ht1, rfl, _, _, rfl, _, _, rfl, _, _, rfl, _, _, rfl, rfl, ?_⟩
      refine ⟨_, rfl, _, rfl, rfl, _, rfl, ?_⟩
      by_cases h : i1.op = op
      · refine itT (decI h) ?_
        -- parts
        have hR1 := hR.ex ex
        have hal : i1.args.length ≤ 2 := ok.a2 _ (List.mem_of_getElem? oki.op)
        have hpl : (partsF rows i1.args).length ≤ 2 := by
          unfold partsF
          rw [List.length_zipWith]
          omega
        have hS1 : SqL K H1 rl xs := SqL.ex hS ex
        refine ⟨_, rfl, _, rfl, rl, t2, _, _, rfl, hS1, ht2, fun D2 hD2 => ?_⟩
        have pl : (partsF rows i1.args).length = min xs.length (i1.args.map fun i => V.int (i : Nat)).length := by
          unfold partsF
          rw [List.length_zipWith, List.length_map, hR.length, List.length_map]
        refine lc_it walk_n (fun j H' => Ex H1 H' ∧ H' D2 = some (.lst (((partsF rows i1.args).take j).map vO))) ⟨Ex.new hD2, by rw [upd_same]; rfl⟩ (fun j H' _ hP => ⟨SqL.ex hS1 hP.1, hP.1 _ _ ht2⟩) (fun j x H2 H3 hj hP hy => ?_) (fun H2 hP => ?_)
        · obtain ⟨T2, x1, x2, rfl, nT, rfl, e1, e2⟩ := hy
          obtain ⟨ex2, hD3⟩ := hP
          have ex3 : Ex H1 (upd H2 T2 (.tup [x1, x2])) := ex2.newT nT
          obtain ⟨r, hr1, hrr⟩ := rds_at hR1 e1
          obtain ⟨ra, rfl, hra⟩ := hrr.row
          have e3 : (i1.args.map fun i => V.int (i : Nat))[j]? = some x2 := e2
          rw [List.getElem?_map] at e3
          cases ha : i1.args[j]? with
          | none => rw [ha] at e3; cases e3
          | some a =>
            rw [ha] at e3
            cases e3
            have hlen : a < r.length := by rw [hrl r (List.mem_of_getElem? hr1)]; exact oki.args a (List.mem_of_getElem? ha)
            have pj : (partsF rows i1.args)[j]? = some (r.getD a none) := by
              unfold partsF
              rw [List.getElem?_zipWith, hr1, ha]
            refine ⟨T2, _, rfl, SqT.of upd_same, rfl, _, _, rfl, _, _, rfl, rfl, rfl, ?_⟩
            refine ⟨_, rfl, _, rfl, ra, _, _, _, rfl, rfl, SqT.of (ex3 _ _ hra), atI_nat (vO_at hlen), _, by rw [upd_ne (ne_of_none hD3 nT)]; exact hD3, by rw [List.length_map, List.length_take]; simp [sizeLine]; omega, ?_⟩
            refine ⟨ex3.mut hD2, ?_⟩
            rw [upd_same, List.take_succ, pj, List.map_append]
            rfl
        · obtain ⟨ex2, hD3⟩ := hP
          rw [List.take_of_length_le (by omega)] at hD3
          have exA : Ex H H2 := ex.trans ex2
          have hl2 : H2 l = some _ := ex2 _ _ hl1
          have fl : (computedF m.n (m.ins.take i) op rows).length = m.n := computedF_len ..
          generalize hfd : computedF m.n (m.ins.take i) op rows = fd0 at hl1 hl2 fl
          have hfm : i1.form < fd0.length := by rw [fl]; exact oki.form
          refine ⟨_, rfl, _, rfl, l, _, _, _, rfl, rfl, .of hl2, atI_nat (vO_at hfm), _, rfl, by simp [sizeLine], fun z hz => ?_⟩
          refine ⟨_, rfl, z, D2, _, _, rfl, rfl, upd_same, by rw [upd_ne (ne_of_none hD3 hz)]; exact hD3, by rw [List.length_map]; simp [sizeLine]; omega, fun z2 hz2 => ?_⟩
          refine ⟨z2, some i1.price :: partsF rows i1.args, rfl, .of (by rw [upd_same]; rfl), ?_⟩
          refine ⟨_, osum (some i1.price :: partsF rows i1.args), rfl, ?_⟩
          have exB := Ex.newT (o := .lst ([V.int i1.price] ++ (partsF rows i1.args).map vO)) (Ex.newT (o := .lst [V.int i1.price]) exA hz) hz2
          have hl3 := (Ex.newT (o := .lst ([V.int i1.price] ++ (partsF rows i1.args).map vO)) (Ex.new (o := .lst [V.int i1.price]) hz) hz2) _ _ hl2
          refine ⟨_, rfl, _, rfl, l, _, _, i1.form, rfl, rfl, hl3, ixN_nat (by rw [List.length_map]; exact hfm), ⟨_, _, _, _, _, _, _, rfl⟩, exB.mut hl0, ?_⟩
          rw [upd_same, computedF_take hi1, hfd, computedS, if_pos h, List.map_set]
      · refine itF (decIN h) ?_
        refine ⟨⟨_, _, _, _, _, _, _, rfl⟩, ex, ?_⟩
        rw [computedF_take hi1, computedS, if_neg h]
        exact hl1
    · obtain ⟨⟨x4, x5, x6, x7, x8, x9, x10, rfl⟩, ex, hl1⟩ := hP
      rw [List.take_of_length_le (by have := M.ri.length; rw [List.length_map] at this; omega)] at hl1
      exact ⟨_, rfl, q l H1 ex hl1⟩
end
end Cp
end

section
set_option Elab.async false
set_option linter.all false
set_option maxRecDepth 100000
set_option maxHeartbeats 4000000
namespace Cp
open PySem PySem.Spec PyProof.Rows L2
theorem convS_len (ways : List Row) (row : Row) (f l : Nat) (fd : Row) : (convS ways row f l fd).length = fd.length := by unfold convS; simp
theorem itn_len {f : Nat → Row → Row} (hf : ∀ i m, (f i m).length = m.length) : ∀ (k : Nat) (m : Row), (itn f k m).length = m.length
  | 0, _ => rfl
  | k + 1, m => (hf k _).trans (itn_len hf k m)
theorem converted_len (ways : List Row) (row : Row) : (convertedF ways row).length = row.length := itn_len (fun f m => itn_len (fun l m => convS_len ..) _ m) _ row
theorem jrow_len (m : Mach) (op : Nat) (rows : List Row) : (jrow m op rows).length = m.n := by
  unfold jrow jrowW
  rw [converted_len, computedF_len]
section
variable {P : Program} {w : World} {K : PySem.W.Frag} {mg : Str → Option Value} {base : Heap}
/-! converted -/
def sp_converted (K : PySem.W.Frag) : Sp := fun vs H Q _ => ∃ (a : Addr) (as : List Addr) (ws : List Row) (rl : Addr) (row : Row) (n : Nat), vs = [.ref a, .ref rl] ∧ Mat H a as ws ∧ Dim n ws ∧ SqL K H rl (row.map vO) ∧ row.length = n ∧
  ∀ (v : V) (H' : Hp), Ex H H' → RD H' v (dS (convertedF ws row)) → Q v H'
theorem ok_converted (T : Tx mg) (D : Def K mg "converted" s_converted) (C_less : Cal P w K mg base CX0 "less" 1 ["one", "other"] sp_less) (C_total : Cal P w K mg base CX0 "total" 1 ["some"] (sp_total K)) : Cal P w K mg base CX0 "converted" 2 ["ways", "row"] (sp_converted K) := by
  obtain ⟨f, fd, F, hm⟩ := D.ex
  refine ⟨f, fd, F.ok sc_converted (fun vs H Q E h => ?_) (fun cdv A outer s H vs Q E hr h => ?_), hm, F.kp, F.binds fun _ _ _ _ _ _ us hl => match us, hl with | [_, _], _ => rfl⟩
  · obtain ⟨a, as, ws, rl, row, n, rfl, _⟩ := h
    rfl
  · obtain ⟨a, as, ws, rl, row, n, rfl, hW, hd, hS, hrn, q⟩ := h
    refine ⟨_, (pss_cons (ps_set (i := 2) sc_converted.nd rfl (by first | exact .inl rfl | exact .inr rfl) (pe_callTy call_list_of (by rfl) T.list boot_list (pa_cons (pv 1) pa_nil)))
  (pss_cons (ps_for PassesOwn.never rfl (pi_enum (by rfl) T.enumerate (pa_cons (pv 1) pa_nil)) (kg_tup K (n := 2) rfl (pgs_cons (pg_name (i := 3) sc_converted.nd rfl (by first | exact .inl rfl | exact .inr rfl)) (pgs_cons (pg_name (i := 4) sc_converted.nd rfl (by first | exact .inl rfl | exact .inr rfl)) pgs_nil)))
  (pss_one (ps_for PassesOwn.never rfl (pi_enum (by rfl) T.enumerate (pa_cons (pe_ix (kx_list K) (pv 0) (pv 3) (fun _ _ => rfl)) pa_nil)) (kg_tup K (n := 2) rfl (pgs_cons (pg_name (i := 5) sc_converted.nd rfl (by first | exact .inl rfl | exact .inr rfl)) (pgs_cons (pg_name (i := 6) sc_converted.nd rfl (by first | exact .inl rfl | exact .inr rfl)) pgs_nil)))
  (pss_one (ps_asg (pe_cal C_less (by first | exact hr | exact hr.mono (by decide)) (by rfl) pass0 (pa_cons (pe_ix (kx_list K) (pv 2) (pv 5) (fun _ _ => rfl)) (pa_cons (pe_cal C_total (by first | exact hr | exact hr.mono (by decide)) (by rfl) pass0 (pa_cons (pe_lst (pa_cons (pv 4) (pa_cons (pv 6) pa_nil))) pa_nil)) pa_nil))) (pg_sub (pv 2) (pv 5) set_list))))))
  (pss_one (ps_ret (pe_callTy (kc_tup K) (by rfl) T.tuple boot_tuple (pa_cons (pv 2) pa_nil)))))), ?_⟩
    refine ⟨_, rfl, rl, _, rfl, .inl hS, fun l hl => ?_⟩
    have ex0 : Ex H (upd H l (.lst (row.map vO))) := Ex.new hl
    refine ⟨_, rfl, rl, row.map vO, rfl, SqL.ex hS ex0, ?_⟩
    refine for_it (walk_enum (xs := row.map vO)) (fun i σ H' => (∃ x3 x4 x5 x6, σ = [some (.ref a), some (.ref rl), some (.ref l), x3, x4, x5, x6]) ∧ Ex H H' ∧ H' l = some (.lst ((itn (fun f fd => itn (fun l fd => convS ws row f l fd) (ws.getD f []).length fd) i row).map vO))) ⟨⟨_, _, _, _, rfl⟩, ex0, upd_same⟩ (fun i σ H1 _ hP => SqL.ex hS hP.2.1) (fun i x σ H1 H2 hi hP hy => ?_) (fun σ H1 hP => ?_)
    · obtain ⟨T1, y1, y2, rfl, nT, rfl, e1, e2⟩ := hy
      cases e1
      obtain ⟨⟨x3, x4, x5, x6, rfl⟩, ex, hl1⟩ := hP
      rw [List.length_map] at hi
      replace e2 : (row.map vO)[i]? = some y2 := e2
      rw [vO_at hi] at e2
      cases e2
      have ex1 := ex.newT (o := .tup [.int (i : Nat), vO (row.getD i none)]) nT
      have hl2 := Ex.new (o := .tup [.int (i : Nat), vO (row.getD i none)]) nT _ _ hl1
      generalize hH2 : upd H1 T1 (.tup [.int (i : Nat), vO (row.getD i none)]) = H2 at ex1 hl2
      refine ⟨T1, _, rfl, SqT.of (by rw [← hH2]; exact upd_same), rfl, _, _, rfl, _, _, rfl, rfl, ?_⟩
      have W2 := hW.ex ex1
      obtain ⟨b, r, e1, e2, e3, e4, e5, e6⟩ := W2.get hd (i := i) (by omega)
      generalize hgen : itn (fun f fd => itn (fun l fd => convS ws row f l fd) (ws.getD f []).length fd) i row = fd1 at hl1 hl2
      have fdl : fd1.length = n := by rw [← hgen, itn_len (fun f m => itn_len (fun l m => convS_len ..) _ m), hrn]
      refine ⟨_, rfl, _, rfl, a, _, _, _, rfl, rfl, .of W2.at', e6, b, r.map vO, rfl, .of e5, ?_⟩
      refine for_it (walk_enum (xs := r.map vO)) (fun j σ H' => (∃ x5 x6, σ = [some (.ref a), some (.ref rl), some (.ref l), some (.int (i : Nat)), some (vO (row.getD i none)), x5, x6]) ∧ Ex H H' ∧ H' l = some (.lst ((itn (fun l fd => convS ws row i l fd) j fd1).map vO))) ⟨⟨_, _, rfl⟩, ex1, hl2⟩ (fun j σ H1 _ hP => .of ((hP.2.1) _ _ (hW.row i b r e1 e2))) (fun j x σ H3 H4 hj hP hy => ?_) (fun σ H3 hP => ?_)
      · obtain ⟨T2, y1, y2, rfl, nT, rfl, g1, g2⟩ := hy
        cases g1
        obtain ⟨⟨x5, x6, rfl⟩, ex3, hl3⟩ := hP
        rw [List.length_map] at hj
        replace g2 : (r.map vO)[j]? = some y2 := g2
        rw [vO_at hj] at g2
        cases g2
        have ex4 := ex3.newT (o := .tup [.int (j : Nat), vO (r.getD j none)]) nT
        have hl4 := Ex.new (o := .tup [.int (j : Nat), vO (r.getD j none)]) nT _ _ hl3
        generalize hH4 : upd H3 T2 (.tup [.int (j : Nat), vO (r.getD j none)]) = H4 at ex4 hl4
        generalize hgen2 : itn (fun l fd => convS ws row i l fd) j fd1 = fd2 at hl3 hl4
        have fdl2 : fd2.length = n := by rw [← hgen2, itn_len (fun l m => convS_len ..), fdl]
        refine ⟨T2, _, rfl, SqT.of (by rw [← hH4]; exact upd_same), rfl, _, _, rfl, _, _, rfl, rfl, ?_⟩
        have hjf : j < fd2.length := by omega
        refine ⟨_, rfl, _, rfl, l, _, _, _, rfl, rfl, .of hl4, atI_nat (vO_at hjf), _, rfl, _, rfl, by simp [sizeLine], fun z hz => ?_⟩
        refine ⟨z, [row.getD i none, r.getD j none], rfl, .of upd_same, ?_⟩
        have ex5 := ex4.newT (o := .lst [vO (row.getD i none), vO (r.getD j none)]) hz
        have hl5 := Ex.new (o := .lst [vO (row.getD i none), vO (r.getD j none)]) hz _ _ hl4
        refine ⟨_, osum [row.getD i none, r.getD j none], rfl, ?_⟩
        refine ⟨_, rfl, _, rfl, l, _, _, j, rfl, rfl, hl5, ixN_nat (by rw [List.length_map]; exact hjf), ⟨_, _, rfl⟩, ex5.mut hl, ?_⟩
        rw [upd_same]
        show _ = some (HO.lst (List.map vO (convS ws row i j (itn (fun l fd => convS ws row i l fd) j fd1))))
        rw [hgen2, convS, List.map_set]
        unfold mget
        rw [e4]
      · obtain ⟨⟨x5, x6, rfl⟩, ex3, hl3⟩ := hP
        refine ⟨⟨_, _, _, _, rfl⟩, ex3, ?_⟩
        show _ = some (HO.lst (List.map vO (itn (fun l fd => convS ws row i l fd) (ws.getD i []).length (itn (fun f fd => itn (fun l fd => convS ws row f l fd) (ws.getD f []).length fd) i row))))
        rw [hgen, e4]
        rw [List.length_map] at hl3
        exact hl3
    · obtain ⟨⟨x3, x4, x5, x6, rfl⟩, ex, hl1⟩ := hP
      rw [List.length_map] at hl1
      refine ⟨_, rfl, l, _, rfl, .inl ⟨.of hl1, fun z hz => q _ _ (ex.newT hz) (rd_row upd_same)⟩⟩
/-! joined_row -/
/-- the ways of a machine -/
def WV (H : Hp) (v : V) (m : Mach) : Prop := ∃ a as, v = .ref a ∧ Mat H a as (wof m.n m.cv)
theorem WV.ex {H H' : Hp} {v : V} {m : Mach} (h : WV H v m) (e : Ex H H') : WV H' v m := let ⟨a, as, h1, h2⟩ := h; ⟨a, as, h1, h2.ex e⟩
def sp_joined_row (K : PySem.W.Frag) : Sp := fun vs H Q _ => ∃ (v u : V) (m : Mach) (op : Nat) (rl : Addr) (xs : List V) (rows : List Row), vs = [v, u, .int (op : Nat), .ref rl] ∧ RD H v (dM m) ∧ m.Ok ∧ WV H u m ∧ SqL K H rl xs ∧ RDs H xs (rows.map dS) ∧ (∀ r ∈ rows, r.length = m.n) ∧
  ∀ (v' : V) (H' : Hp), Ex H H' → RD H' v' (dS (jrow m op rows)) → Q v' H'
theorem ok_joined_row (T : Tx mg) (D : Def K mg "joined_row" s_joined_row) (C_computed : Cal P w K mg base CX0 "computed" 2 ["machine", "operator", "rows"] (sp_computed K)) (C_converted : Cal P w K mg base CX0 "converted" 2 ["ways", "row"] (sp_converted K)) :
    Cal P w K mg base CX0 "joined_row" 3 ["machine", "ways", "operator", "rows"] (sp_joined_row K) := by
  obtain ⟨f, fd, F, hm⟩ := D.ex
  refine ⟨f, fd, F.ok sc_joined_row (fun vs H Q E h => ?_) (fun cdv A outer s H vs Q E hr h => ?_), hm, F.kp, F.binds fun _ _ _ _ _ _ us hl => match us, hl with | [_, _, _, _], _ => rfl⟩
  · obtain ⟨v, u, m, op, rl, xs, rows, rfl, _⟩ := h
    rfl
  · obtain ⟨v, u, m, op, rl, xs, rows, rfl, hM, ok, ⟨a, as, rfl, hW⟩, hS, hR, hrl, q⟩ := h
    refine ⟨_, (pss_one (ps_ret (pe_cal C_converted (by first | exact hr | exact hr.mono (by decide)) (by rfl) pass0 (pa_cons (pv 1) (pa_cons (pe_cal C_computed (by first | exact hr | exact hr.mono (by decide)) (by rfl) pass0 (pa_cons (pv 0) (pa_cons (pv 2) (pa_cons (pv 3) pa_nil)))) pa_nil))))), ?_⟩
    refine ⟨_, rfl, _, rfl, _, rfl, _, rfl, v, m, op, rl, xs, rows, rfl, hM, ok, hS, hR, hrl, fun l H1 ex h1 => ?_⟩
    exact ⟨a, as, _, l, _, m.n, rfl, hW.ex ex, dim_wof _ _, .of h1, computedF_len .., fun v' H2 ex2 h2 => q v' H2 (ex.trans ex2) h2⟩
end
end Cp
end

section
set_option Elab.async false
set_option linter.all false
set_option maxRecDepth 100000
set_option maxHeartbeats 4000000
namespace Cp
open PySem PySem.Spec PyProof.Rows L2
theorem ints_lay (ns : List Int) : PyData.canLayAll0 (ns.map PyData.int) = true := by
  induction ns with
  | nil => simp [PyData.canLayAll0]
  | cons i r ih => rw [List.map_cons, PyData.canLayAll0, ih]; simp [PyData.canLay0]
theorem ints_depth (ns : List Int) : PyData.depthAll (ns.map PyData.int) = 0 := by
  induction ns with
  | nil => simp [PyData.depthAll]
  | cons i r ih => rw [List.map_cons, PyData.depthAll, ih]; simp [PyData.depth]
theorem ints_shaped (ns : List Int) : SeqAt.shaped (.list (ns.map .int)) = true := by
  show ((PyData.list (ns.map .int)).canLay0 && decide ((PyData.list (ns.map .int)).depth ≤ 64)) = true
  rw [PyData.canLay0, ints_lay, PyData.depth, ints_depth]
  rfl
theorem ints_ne (ns : List Int) : PyData.eqv (.list (ns.map .int)) (.list []) = ns.isEmpty := by
  rw [PyData.eqv]
  cases ns with
  | nil => simp [PyData.eqvAll]
  | cons i r => simp [PyData.eqvAll]
theorem nil_shaped : SeqAt.shaped (.list []) = true := ints_shaped []
theorem somes_cons (x : Option Int) (r : Row) : somes (x :: r) = match x with | none => somes r | some i => i :: somes r := by
  cases x <;> rfl
theorem somes_snoc (r : Row) (x : Option Int) : somes (r ++ [x]) = somes r ++ (match x with | none => [] | some i => [i]) := by
  unfold somes
  rw [List.filterMap_append]
  cases x <;> rfl
theorem omin_none {r : Row} (h : somes r = []) : omin r = none := by
  induction r with
  | nil => rfl
  | cons x r ih =>
    cases x with
    | none => exact ih h
    | some i => cases h
theorem omin_le {r : Row} : (omin r = none → somes r = []) ∧ ∀ m, omin r = some m → m ∈ somes r ∧ ∀ y ∈ somes r, m ≤ y := by
  induction r with
  | nil => exact ⟨fun _ => rfl, fun m h => by cases h⟩
  | cons x r ih =>
    cases x with
    | none => exact ih
    | some i =>
      show (oless (some i) (omin r) = none → i :: somes r = []) ∧ ∀ m, oless (some i) (omin r) = some m → m ∈ i :: somes r ∧ ∀ y ∈ i :: somes r, m ≤ y
      cases e : omin r with
      | none =>
        rw [ih.1 e]
        refine ⟨fun h => (by cases h), fun m h => ?_⟩
        cases h
        simp
      | some j =>
        obtain ⟨h1, h2⟩ := ih.2 j e
        refine ⟨fun h => (by cases h), fun m h => ?_⟩
        have hm : min i j = m := Option.some.inj h
        refine ⟨?_, fun y hy => ?_⟩
        · rcases Int.le_total i j with h | h
          · rw [← hm, Int.min_eq_left h]; simp
          · rw [← hm, Int.min_eq_right h]; simp [h1]
        · rcases List.mem_cons.mp hy with rfl | hy
          · omega
          · have := h2 y hy
            omega
theorem omin_some {r : Row} {m : Int} (h1 : m ∈ somes r) (h2 : ∀ y ∈ somes r, m ≤ y) : omin r = some m := by
  cases e : omin r with
  | none => rw [omin_le.1 e] at h1; cases h1
  | some j =>
    obtain ⟨g1, g2⟩ := omin_le.2 j e
    have := h2 j g1
    have := g2 m h1
    congr 1
    omega
section
variable {P : Program} {w : World} {K : PySem.W.Frag} {mg : Str → Option Value} {base : Heap}
/-! base_of -/
def sp_base_of : Sp := fun vs H Q _ => ∃ (v : V) (r : Row), vs = [v] ∧ RD H v (dS r) ∧ r.length ≤ 100 ∧ ∀ H', Ex H H' → Q (vO (baseF r)) H'
theorem ok_base_of (T : Tx mg) (D : Def K mg "base_of" s_base_of) : Cal P w K mg base CX0 "base_of" 1 ["row"] sp_base_of := by
  obtain ⟨f, fd, F, hm⟩ := D.ex
  refine ⟨f, fd, F.ok sc_base_of (fun vs H Q E h => ?_) (fun cdv A outer s H vs Q E hr h => ?_), hm, F.kp, F.binds fun _ _ _ _ _ _ us hl => match us, hl with | [_], _ => rfl⟩
  · obtain ⟨v, r, rfl, _⟩ := h
    rfl
  · obtain ⟨v, r, rfl, hR, hz, q⟩ := h
    obtain ⟨p, rfl, hp⟩ := hR.row
    refine ⟨_, (pss_cons (ps_setLc (i := 1) (own := [("price", 2)]) rfl sc_base_of.nd rfl rfl (sw_true rfl rfl rfl (by decide +kernel)) (ki_tup K (pv 0)) (blkOk_by (own := [("price", 2)]) (N := ["row", "some", "price"]) (sc := defScope s_base_of) (by decide +kernel)) (fun _ _ _ _ _ => (pg_name (i := 2) sc_base_of.nd rfl (by first | exact .inl rfl | exact .inr rfl))) (fun _ _ _ _ _ => (pts_one (pt_cmpR op_notN (pv 2) pe_non (nomark _)))) (fun _ _ _ _ _ => (pv 2)))
  (pss_one (ps_ret (pe_ifExp (pt_cmpR (ko_ne K hr.units) (pv 1) (pe_lst pa_nil) (nomark _)) (pe_callB (cr_min rfl) (by rfl) T.min boot_min (pa_cons (pv 1) pa_nil)) pe_non)))), ?_⟩
    refine ⟨_, rfl, p, rfl, ⟨_, .of hp⟩, fun D2 hD => ?_⟩
    refine lc_it (walk_tup (xs := r.map vO)) (fun i H' => Ex H H' ∧ H' D2 = some (.lst ((somes (r.take i)).map V.int))) ⟨Ex.new hD, upd_same⟩ (fun i H1 _ hP => SqT.of (hP.1 _ _ hp)) (fun i x _ H1 hi hP hy => ?_) (fun H1 hP => ?_)
    · obtain ⟨rfl, hx⟩ := hy
      obtain ⟨ex, hD1⟩ := hP
      rw [List.length_map] at hi
      rw [vO_at hi] at hx
      cases hx
      have hg : r[i]? = some (r.getD i none) := by simp [hi]
      have ht : somes (r.take (i + 1)) = somes (r.take i) ++ (match r.getD i none with | none => [] | some i => [i]) := by
        rw [List.take_succ, hg, ← somes_snoc]
        rfl
      refine ⟨rfl, _, rfl, rfl, _, rfl, ?_⟩
      cases e : r.getD i none with
      | none =>
        refine itF (by decide) ⟨ex, ?_⟩
        rw [ht, e, List.append_nil]
        exact hD1
      | some j =>
        refine itT rfl ⟨_, rfl, _, hD1, ?_, ex.mut hD, ?_⟩
        · rw [List.length_map]
          have := List.length_filterMap_le id (r.take i)
          have := List.length_take_le i r
          simp [sizeLine, somes] at *
          omega
        · rw [upd_same, ht, e]
          simp [vO]
    · obtain ⟨ex, hD1⟩ := hP
      rw [List.length_map, List.take_length] at hD1
      refine ⟨_, rfl, by decide, fun z hz => ?_⟩
      have ex1 := ex.newT (o := .lst []) hz
      have hD2 := Ex.new (o := .lst []) hz _ _ hD1
      refine ⟨.list ((somes r).map .int), .list [], .lst (.of hD2) (rds_i _).dp, .lst (.of upd_same) .nil, ints_shaped _, nil_shaped, _, rfl, ?_⟩
      rw [ints_ne]
      cases e : somes r with
      | nil =>
        refine itF (by decide) ?_
        rw [show baseF r = none from omin_none e] at q
        exact q _ ex1
      | cons i t =>
        refine itT (by rfl) ?_
        refine ⟨_, rfl, D2, i :: t, rfl, .of (by rw [← e]; exact hD2), by simp, fun m h1 h2 => ?_⟩
        rw [show baseF r = some m from omin_some (by rw [e]; exact h1) (by rw [e]; exact h2)] at q
        exact q _ ex1
/-! relative_of -/
def dRel (r : Row) : PyData := .tuple [dS (relS r), dO (baseF r)]
def sp_relative_of : Sp := fun vs H Q _ => ∃ (v : V) (r : Row), vs = [v] ∧ RD H v (dS r) ∧ r.length ≤ 100 ∧ ∀ v' H', Ex H H' → RD H' v' (dRel r) → Q v' H'
theorem ok_relative_of (T : Tx mg) (D : Def K mg "relative_of" s_relative_of) (C_base_of : Cal P w K mg base CX0 "base_of" 1 ["row"] sp_base_of) : Cal P w K mg base CX0 "relative_of" 2 ["row"] sp_relative_of := by
  obtain ⟨f, fd, F, hm⟩ := D.ex
  refine ⟨f, fd, F.ok sc_relative_of (fun vs H Q E h => ?_) (fun cdv A outer s H vs Q E hr h => ?_), hm, F.kp, F.binds fun _ _ _ _ _ _ us hl => match us, hl with | [_], _ => rfl⟩
  · obtain ⟨v, r, rfl, _⟩ := h
    rfl
  · obtain ⟨v, r, rfl, hR, hz, q⟩ := h
    obtain ⟨p, rfl, hp⟩ := hR.row
    refine ⟨_, (pss_cons (ps_set (i := 1) sc_relative_of.nd rfl (by first | exact .inl rfl | exact .inr rfl) (pe_cal C_base_of (by first | exact hr | exact hr.mono (by decide)) (by rfl) pass0 (pa_cons (pv 0) pa_nil)))
  (pss_one (ps_ret (pe_tup (pa_cons (pe_callTy (kc_tup K) (by rfl) T.tuple boot_tuple (pa_cons (pe_lc (own := [("price", 2)]) rfl sc_relative_of.nd (ki_tup K (pv 0)) (blkOk_by (own := [("price", 2)]) (N := ["row", "base", "price"]) (sc := defScope s_relative_of) (by decide +kernel)) (fun _ _ _ _ _ => (pg_name (i := 2) sc_relative_of.nd rfl (by first | exact .inl rfl | exact .inr rfl))) (fun _ _ _ _ _ => pts_nil) (fun _ _ _ _ _ => (pe_ifExp (pt_cmpR op_isN (pv 2) pe_non (nomark _)) pe_non (pe_op op_sub (pv 2) (pv 1))))) pa_nil)) (pa_cons (pv 1) pa_nil)))))), ?_⟩
    refine ⟨_, rfl, _, r, rfl, hR, hz, fun H0 ex0 => ?_⟩
    refine ⟨_, rfl, p, rfl, ⟨_, .of (ex0 _ _ hp)⟩, fun D2 hD => ?_⟩
    refine lc_it (walk_tup (xs := r.map vO)) (fun i H' => Ex H H' ∧ H' D2 = some (.lst (((relS r).take i).map vO))) ⟨ex0.newT hD, upd_same⟩ (fun i H1 _ hP => SqT.of (hP.1 _ _ hp)) (fun i x _ H1 hi hP hy => ?_) (fun H1 hP => ?_)
    · obtain ⟨rfl, hx⟩ := hy
      obtain ⟨ex, hD1⟩ := hP
      rw [List.length_map] at hi
      rw [vO_at hi] at hx
      cases hx
      have hg : r[i]? = some (r.getD i none) := by simp [hi]
      have ht : (relS r).take (i + 1) = (relS r).take i ++ [(r.getD i none).map (· - (baseF r).getD 0)] := by
        unfold relS
        rw [List.take_succ, List.getElem?_map, hg]
        rfl
      have hlen : (List.map vO ((relS r).take i)).length < sizeLine := by
        rw [List.length_map]
        have := List.length_take_le i (relS r)
        simp [sizeLine, relS] at *
        omega
      refine ⟨rfl, ?_⟩
      refine ⟨_, rfl, rfl, _, rfl, ?_⟩
      cases e : r.getD i none with
      | none =>
        refine itT (by decide) ⟨_, hD1, hlen, ex.mut (ex0.free hD), ?_⟩
        rw [upd_same, ht, e]
        simp [vO]
      | some j =>
        refine itF (show ¬ (false = true) by decide) ?_
        have hb : ∃ b, baseF r = some b := by
          cases eb : baseF r with
          | some b => exact ⟨b, rfl⟩
          | none =>
            have h1 := omin_le.1 eb
            have h2 : j ∈ somes r := List.mem_filterMap.mpr ⟨some j, by rw [← e]; exact List.mem_of_getElem? hg, rfl⟩
            rw [h1] at h2
            cases h2
        obtain ⟨b, hb⟩ := hb
        rw [hb]
        refine ⟨_, rfl, _, rfl, _, _, rfl, rfl, ?_⟩
        refine ⟨_, hD1, hlen, ex.mut (ex0.free hD), ?_⟩
        rw [upd_same, ht, e, hb]
        simp [vO]
    · obtain ⟨ex, hD1⟩ := hP
      rw [List.length_map, List.take_of_length_le (by unfold relS; simp)] at hD1
      refine ⟨D2, _, rfl, .inl ⟨.of hD1, fun t ht => ?_⟩⟩
      refine ⟨_, rfl, by simp [sizeLine], fun t2 ht2 => q _ _ ((ex.newT ht).newT ht2) ?_⟩
      exact .tup upd_same (.cons (.tup (Ex.new ht2 _ _ upd_same) (rds_o _)) (.cons (rd_o _) .nil))
/-! stepped -/
def sp_stepped (K : PySem.W.Frag) : Sp := fun vs H Q _ => ∃ (v u : V) (m : Mach) (op : Nat) (rl : Addr) (xs : List V) (rows : List Row), vs = [v, u, .int (op : Nat), .ref rl] ∧ RD H v (dM m) ∧ m.Ok ∧ WV H u m ∧ SqL K H rl xs ∧ RDs H xs (rows.map dS) ∧ (∀ r ∈ rows, r.length = m.n) ∧
  ∀ (v' : V) (H' : Hp), Ex H H' → RD H' v' (dRel (jrow m op rows)) → Q v' H'
theorem ok_stepped (T : Tx mg) (D : Def K mg "stepped" s_stepped) (C_joined_row : Cal P w K mg base CX0 "joined_row" 3 ["machine", "ways", "operator", "rows"] (sp_joined_row K)) (C_relative_of : Cal P w K mg base CX0 "relative_of" 2 ["row"] sp_relative_of) :
    Cal P w K mg base CX0 "stepped" 4 ["machine", "ways", "operator", "arguments"] (sp_stepped K) := by
  obtain ⟨f, fd, F, hm⟩ := D.ex
  refine ⟨f, fd, F.ok sc_stepped (fun vs H Q E h => ?_) (fun cdv A outer s H vs Q E hr h => ?_), hm, F.kp, F.binds fun _ _ _ _ _ _ us hl => match us, hl with | [_, _, _, _], _ => rfl⟩
  · obtain ⟨v, u, m, op, rl, xs, rows, rfl, _⟩ := h
    rfl
  · obtain ⟨v, u, m, op, rl, xs, rows, rfl, hM, ok, hW, hS, hR, hrl, q⟩ := h
    refine ⟨_, (pss_one (ps_ret (pe_cal C_relative_of (by first | exact hr | exact hr.mono (by decide)) (by rfl) pass0 (pa_cons (pe_cal C_joined_row (by first | exact hr | exact hr.mono (by decide)) (by rfl) pass0 (pa_cons (pv 0) (pa_cons (pv 1) (pa_cons (pv 2) (pa_cons (pv 3) pa_nil))))) pa_nil)))), ?_⟩
    refine ⟨_, rfl, _, rfl, _, rfl, _, rfl, v, u, m, op, rl, xs, rows, rfl, hM, ok, hW, hS, hR, hrl, fun v1 H1 ex h1 => ?_⟩
    exact ⟨_, _, rfl, h1, by rw [jrow_len]; have := ok.n4; omega, fun v' H2 ex2 h2 => q v' H2 (ex.trans ex2) h2⟩
end
end Cp
end

section
set_option Elab.async false
set_option linter.all false
set_option maxRecDepth 100000
set_option maxHeartbeats 4000000
namespace Cp
open PySem PySem.Spec PyProof.Rows L2
abbrev vN (i : Nat) : V := .int (i : Int)
theorem RD.nats {H : Hp} {v : V} {r : List Nat} (h : RD H v (.tuple (r.map dN))) : ∃ a, v = .ref a ∧ H a = some (.tup (r.map vN)) := by
  obtain ⟨a, xs, rfl, e, q⟩ := h.inv_tup
  rw [q.inv_n] at e
  exact ⟨a, rfl, e⟩
/-- a statement that is never reached -/
theorem ps_never {X : Cx} {st : Stmt} : PS X st (fun _ _ _ => False) := ⟨fun _ _ _ _ _ _ h => h.elim⟩
/-- trues -/
def tru (i : Nat) : List V := (List.replicate i true).map V.bl
theorem tru_snoc (i : Nat) : tru (i + 1) = tru i ++ [.bl true] := by
  unfold tru
  rw [List.replicate_succ', List.map_append]
  rfl
theorem tru_len (i : Nat) : (tru i).length = i := by unfold tru; simp
theorem all_tru (i : Nat) : (List.replicate i true).all id = true := by simp
section
variable {P : Program} {w : World} {K : PySem.W.Frag} {mg : Str → Option Value} {base : Heap}
/-! is_arities -/
def sp_is_arities : Sp := fun vs H Q _ => ∃ (v : V) (ar : List Nat), vs = [v] ∧ RD H v (.tuple (ar.map dN)) ∧ 1 ≤ ar.length ∧ ar.length ≤ 6 ∧ (∀ a ∈ ar, a ≤ 2) ∧ ∀ H', Ex H H' → Q (.bl true) H'
theorem ok_is_arities (T : Tx mg) (D : Def K mg "is_arities" s_is_arities) (C_is_between : Cal P w K mg base CX0 "is_between" 1 ["thing", "low", "high"] sp_is_between) : Cal P w K mg base CX0 "is_arities" 2 ["thing"] sp_is_arities := by
  obtain ⟨f, fd, F, hm⟩ := D.ex
  refine ⟨f, fd, F.ok sc_is_arities (fun vs H Q E h => ?_) (fun cdv A outer s H vs Q E hr h => ?_), hm, F.kp, F.binds fun _ _ _ _ _ _ us hl => match us, hl with | [_], _ => rfl⟩
  · obtain ⟨v, ar, rfl, _⟩ := h
    rfl
  · obtain ⟨v, ar, rfl, hR, h1, h6, h2, q⟩ := h
    obtain ⟨p, rfl, hp⟩ := hR.nats
    refine ⟨_, (pss_cons (ps_if (PW.pt (pw_or (pt_not (pt_val (pe_callB (kc_isi K) (by rfl) T.isinstance boot_isinstance (pa_cons (pv 0) (pa_cons (pe_bltn (v := .ty "tuple") (by rfl) T.tuple boot_tuple rfl) pa_nil))))) (pw_or1 (pt_not (pt_chain op_le op_le pe_int (pe_callB (kc_len K) (by rfl) T.len boot_len (pa_cons (pv 0) pa_nil)) (pe_cst T.cMOST_OPERATORS)))))) (pss_one (ps_ret pe_bl)) pss_nil)
  (pss_one (ps_ret (pe_callB (cr_all rfl) (by rfl) T.all boot_all (pa_cons (pe_lc (own := [("arity", 1)]) rfl sc_is_arities.nd (ki_tup K (pv 0)) (blkOk_by (own := [("arity", 1)]) (N := ["thing", "arity"]) (sc := defScope s_is_arities) (by decide +kernel)) (fun _ _ _ _ _ => (pg_name (i := 1) sc_is_arities.nd rfl (by first | exact .inl rfl | exact .inr rfl))) (fun _ _ _ _ _ => pts_nil) (fun _ _ _ _ _ => (pe_cal C_is_between (by first | exact hr | exact hr.mono (by decide)) (by rfl) pass0 (pa_cons (pv 1) (pa_cons pe_int (pa_cons (pe_cst T.cMOST_ARITY) pa_nil)))))) pa_nil))))), ?_⟩
    refine ⟨_, rfl, _, _, _, _, _, rfl, .ty _, .base (.tup hp), kit_tt, _, rfl, ?_⟩
    refine itF Bool.false_ne_true ?_
    refine ⟨_, rfl, p, _, rfl, .inr (.of hp), _, _, rfl, rfl, _, rfl, ?_⟩
    refine itT (decide_eq_true (by rw [List.length_map]; omega)) ?_
    refine ⟨_, _, rfl, rfl, _, rfl, ?_⟩
    rw [decide_eq_true (show ((ar.map vN).length : Int) ≤ 6 by rw [List.length_map]; omega)]
    refine itF Bool.false_ne_true ?_
    refine ⟨_, rfl, p, rfl, ⟨_, .of hp⟩, fun D2 hD => ?_⟩
    refine lc_it (walk_tup (xs := ar.map vN)) (fun i H' => Ex H H' ∧ H' D2 = some (.lst (tru i))) ⟨Ex.new hD, upd_same⟩ (fun i H1 _ hP => SqT.of (hP.1 _ _ hp)) (fun i x _ H1 hi hP hy => ?_) (fun H1 hP => ?_)
    · obtain ⟨rfl, hx⟩ := hy
      obtain ⟨ex, hD1⟩ := hP
      rw [List.length_map] at hi
      rw [List.getElem?_map, List.getElem?_eq_getElem hi] at hx
      cases hx
      have := h2 ar[i] (List.getElem_mem hi)
      refine ⟨rfl, _, rfl, _, _, _, rfl, _, hD1, by rw [tru_len]; simp [sizeLine]; omega, ex.mut hD, ?_⟩
      rw [upd_same, tru_snoc, decide_eq_true (by omega)]
    · obtain ⟨ex, hD1⟩ := hP
      refine ⟨D2, _, rfl, .of hD1, ?_⟩
      rw [all_tru]
      exact q _ ex
/-! is_instruction -/
def sp_is_instruction : Sp := fun vs H Q _ => ∃ (va v : V) (ar : List Nat) (n : Nat) (i : Ins), vs = [va, vN n, v] ∧ RD H va (.tuple (ar.map dN)) ∧ RD H v (dIns i) ∧ OkI ar n i ∧ i.args.length ≤ 2 ∧ ∀ H', Ex H H' → Q (.bl true) H'
theorem ok_is_instruction (T : Tx mg) (D : Def K mg "is_instruction" s_is_instruction) (C_is_between : Cal P w K mg base CX0 "is_between" 1 ["thing", "low", "high"] sp_is_between) : Cal P w K mg base CX0 "is_instruction" 2 ["arities", "forms", "thing"] sp_is_instruction := by
  obtain ⟨f, fd, F, hm⟩ := D.ex
  refine ⟨f, fd, F.ok sc_is_instruction (fun vs H Q E h => ?_) (fun cdv A outer s H vs Q E hr h => ?_), hm, F.kp, F.binds fun _ _ _ _ _ _ us hl => match us, hl with | [_, _, _], _ => rfl⟩
  · obtain ⟨va, v, ar, n, i, rfl, _⟩ := h
    rfl
  · obtain ⟨va, v, ar, n, i, rfl, hA, hI, ok, hal, q⟩ := h
    obtain ⟨pa, rfl, hpa⟩ := hA.nats
    obtain ⟨p, b, rfl, hp, hb⟩ := hI.ins
    have h1 := ok.form
    have h2 : i.op < ar.length := (List.getElem?_eq_some_iff.mp ok.op).1
    have h3 := ok.p0
    have h4 := ok.p1
    refine ⟨_, (pss_cons (ps_if (PW.pt (pw_or (pt_not (pt_val (pe_callB (kc_isi K) (by rfl) T.isinstance boot_isinstance (pa_cons (pv 2) (pa_cons (pe_bltn (v := .ty "tuple") (by rfl) T.tuple boot_tuple rfl) pa_nil))))) (pw_or (pt_cmpR op_ne (pe_callB (kc_len K) (by rfl) T.len boot_len (pa_cons (pv 2) pa_nil)) pe_int (nomark _)) (pw_or1 (pt_not (pt_val (pe_cal C_is_between (by first | exact hr | exact hr.mono (by decide)) (by rfl) pass0 (pa_cons (pe_ix (kx_tup K) (pv 2) pe_int (fun _ _ => rfl)) (pa_cons pe_int (pa_cons (pe_op op_sub (pv 1) pe_int) pa_nil)))))))))) (pss_one (ps_ret pe_bl)) pss_nil)
  (pss_cons (ps_if (PW.pt (pw_or (pt_not (pt_val (pe_cal C_is_between (by first | exact hr | exact hr.mono (by decide)) (by rfl) pass0 (pa_cons (pe_ix (kx_tup K) (pv 2) pe_int (fun _ _ => rfl)) (pa_cons pe_int (pa_cons (pe_op op_sub (pe_callB (kc_len K) (by rfl) T.len boot_len (pa_cons (pv 0) pa_nil)) pe_int) pa_nil)))))) (pw_or1 (pt_not (pt_val (pe_cal C_is_between (by first | exact hr | exact hr.mono (by decide)) (by rfl) pass0 (pa_cons (pe_ix (kx_tup K) (pv 2) pe_int (fun _ _ => rfl)) (pa_cons pe_int (pa_cons (pe_cst T.cMOST_PRICE) pa_nil))))))))) (pss_one (ps_ret pe_bl)) pss_nil)
  (pss_cons (ps_if (PW.pt (pw_or (pt_not (pt_val (pe_callB (kc_isi K) (by rfl) T.isinstance boot_isinstance (pa_cons (pe_ix (kx_tup K) (pv 2) pe_int (fun _ _ => rfl)) (pa_cons (pe_bltn (v := .ty "tuple") (by rfl) T.tuple boot_tuple rfl) pa_nil))))) (pw_or1 (pt_cmpR op_ne (pe_callB (kc_len K) (by rfl) T.len boot_len (pa_cons (pe_ix (kx_tup K) (pv 2) pe_int (fun _ _ => rfl)) pa_nil)) (pe_ix (kx_tup K) (pv 0) (pe_ix (kx_tup K) (pv 2) pe_int (fun _ _ => rfl)) (fun _ _ => rfl)) (nomark _))))) (pss_one (ps_ret pe_bl)) pss_nil)
  (pss_one (ps_ret (pe_callB (cr_all rfl) (by rfl) T.all boot_all (pa_cons (pe_lc (own := [("form", 3)]) rfl sc_is_instruction.nd (ki_tup K (pe_ix (kx_tup K) (pv 2) pe_int (fun _ _ => rfl))) (blkOk_by (own := [("form", 3)]) (N := ["arities", "forms", "thing", "form"]) (sc := defScope s_is_instruction) (by decide +kernel)) (fun _ _ _ _ _ => (pg_name (i := 3) sc_is_instruction.nd rfl (by first | exact .inl rfl | exact .inr rfl))) (fun _ _ _ _ _ => pts_nil) (fun _ _ _ _ _ => (pe_cal C_is_between (by first | exact hr | exact hr.mono (by decide)) (by rfl) pass0 (pa_cons (pv 3) (pa_cons pe_int (pa_cons (pe_op op_sub (pv 1) pe_int) pa_nil)))))) pa_nil))))))), ?_⟩
    refine ⟨_, rfl, _, _, _, _, _, rfl, .ty _, .base (.tup hp), kit_tt, _, rfl, ?_⟩
    refine itF Bool.false_ne_true ?_
    refine ⟨_, rfl, p, _, rfl, .inr (.of hp), rfl, _, rfl, ?_⟩
    refine itF Bool.false_ne_true ?_
    refine ⟨_, rfl, p, _, _, _, rfl, rfl, .of hp, rfl, _, rfl, _, _, rfl, rfl, _, _, _, rfl, _, rfl, ?_⟩
    rw [decide_eq_true (by omega)]
    refine itF Bool.false_ne_true ?_
    refine ⟨_, rfl, p, _, _, _, rfl, rfl, .of hp, rfl, _, rfl, pa, _, rfl, .inr (.of hpa), _, _, rfl, rfl, _, _, _, rfl, _, rfl, ?_⟩
    rw [decide_eq_true (by rw [List.length_map]; omega)]
    refine itF Bool.false_ne_true ?_
    refine ⟨_, rfl, p, _, _, _, rfl, rfl, .of hp, rfl, _, _, _, rfl, _, rfl, ?_⟩
    rw [decide_eq_true (by omega)]
    refine itF Bool.false_ne_true ?_
    refine ⟨_, rfl, p, _, _, _, rfl, rfl, .of hp, rfl, _, _, _, _, _, rfl, .ty _, .base (.tup hb), kit_tt, _, rfl, ?_⟩
    refine itF Bool.false_ne_true ?_
    refine ⟨_, rfl, p, _, _, _, rfl, rfl, .of hp, rfl, b, _, rfl, .inr (.of hb), _, rfl, _, rfl, p, _, _, _, rfl, rfl, .of hp, rfl, pa, _, _, _, rfl, rfl, .of hpa, atI_nat (by rw [List.getElem?_map, ok.op]; rfl), rfl, _, rfl, ?_⟩
    rw [List.length_map, decI rfl]
    refine itF Bool.false_ne_true ?_
    refine ⟨_, rfl, p, _, _, _, rfl, rfl, .of hp, rfl, b, rfl, ⟨_, .of hb⟩, fun D2 hD => ?_⟩
    refine lc_it (walk_tup (xs := i.args.map vN)) (fun j H' => Ex H H' ∧ H' D2 = some (.lst (tru j))) ⟨Ex.new hD, upd_same⟩ (fun j H1 _ hP => SqT.of (hP.1 _ _ hb)) (fun j x _ H1 hj hP hy => ?_) (fun H1 hP => ?_)
    · obtain ⟨rfl, hx⟩ := hy
      obtain ⟨ex, hD1⟩ := hP
      rw [List.length_map] at hj
      rw [List.getElem?_map, List.getElem?_eq_getElem hj] at hx
      cases hx
      have := ok.args i.args[j] (List.getElem_mem hj)
      refine ⟨rfl, _, rfl, _, rfl, _, _, rfl, rfl, _, _, _, rfl, _, hD1, by rw [tru_len]; simp [sizeLine]; omega, ex.mut hD, ?_⟩
      rw [upd_same, tru_snoc, decide_eq_true (by omega)]
    · obtain ⟨ex, hD1⟩ := hP
      refine ⟨D2, _, rfl, .of hD1, ?_⟩
      rw [all_tru]
      exact q _ ex
/-! is_conversion -/
def sp_is_conversion : Sp := fun vs H Q _ => ∃ (v : V) (n : Nat) (c : Cv), vs = [vN n, v] ∧ RD H v (dCv c) ∧ OkC n c ∧ Q (.bl true) H
theorem ok_is_conversion (T : Tx mg) (D : Def K mg "is_conversion" s_is_conversion) (C_is_between : Cal P w K mg base CX0 "is_between" 1 ["thing", "low", "high"] sp_is_between) : Cal P w K mg base CX0 "is_conversion" 2 ["forms", "thing"] sp_is_conversion := by
  obtain ⟨f, fd, F, hm⟩ := D.ex
  refine ⟨f, fd, F.ok sc_is_conversion (fun vs H Q E h => ?_) (fun cdv A outer s H vs Q E hr h => ?_), hm, F.kp, F.binds fun _ _ _ _ _ _ us hl => match us, hl with | [_, _], _ => rfl⟩
  · obtain ⟨v, n, c, rfl, _⟩ := h
    rfl
  · obtain ⟨v, n, c, rfl, hC, ok, q⟩ := h
    obtain ⟨p, rfl, hp⟩ := hC.cv
    have h1 := ok.first
    have h2 := ok.last
    have h3 := ok.p0
    have h4 := ok.p1
    refine ⟨_, (pss_cons (ps_if (PW.pt (pw_or (pt_not (pt_val (pe_callB (kc_isi K) (by rfl) T.isinstance boot_isinstance (pa_cons (pv 1) (pa_cons (pe_bltn (v := .ty "tuple") (by rfl) T.tuple boot_tuple rfl) pa_nil))))) (pw_or (pt_cmpR op_ne (pe_callB (kc_len K) (by rfl) T.len boot_len (pa_cons (pv 1) pa_nil)) pe_int (nomark _)) (pw_or1 (pt_not (pt_val (pe_cal C_is_between (by first | exact hr | exact hr.mono (by decide)) (by rfl) pass0 (pa_cons (pe_ix (kx_tup K) (pv 1) pe_int (fun _ _ => rfl)) (pa_cons pe_int (pa_cons (pe_cst T.cMOST_PRICE) pa_nil)))))))))) (pss_one (ps_ret pe_bl)) pss_nil)
  (pss_one (ps_ret (pe_and (pe_cal C_is_between (by first | exact hr | exact hr.mono (by decide)) (by rfl) pass0 (pa_cons (pe_ix (kx_tup K) (pv 1) pe_int (fun _ _ => rfl)) (pa_cons pe_int (pa_cons (pe_op op_sub (pv 0) pe_int) pa_nil)))) (pe_and (pe_cal C_is_between (by first | exact hr | exact hr.mono (by decide)) (by rfl) pass0 (pa_cons (pe_ix (kx_tup K) (pv 1) pe_int (fun _ _ => rfl)) (pa_cons pe_int (pa_cons (pe_op op_sub (pv 0) pe_int) pa_nil)))) (pe_one (pe_cmpR op_ne (pe_ix (kx_tup K) (pv 1) pe_int (fun _ _ => rfl)) (pe_ix (kx_tup K) (pv 1) pe_int (fun _ _ => rfl)) (nomark _)))))))), ?_⟩
    refine ⟨_, rfl, _, _, _, _, _, rfl, .ty _, .base (.tup hp), kit_tt, _, rfl, ?_⟩
    refine itF Bool.false_ne_true ?_
    refine ⟨_, rfl, p, _, rfl, .inr (.of hp), rfl, _, rfl, ?_⟩
    refine itF Bool.false_ne_true ?_
    refine ⟨_, rfl, p, _, _, _, rfl, rfl, .of hp, rfl, _, _, _, rfl, _, rfl, ?_⟩
    rw [decide_eq_true (by omega)]
    refine itF Bool.false_ne_true ?_
    refine ⟨_, rfl, p, _, _, _, rfl, rfl, .of hp, rfl, _, rfl, _, _, rfl, rfl, _, _, _, rfl, _, rfl, ?_⟩
    rw [decide_eq_true (by omega)]
    refine itT rfl ?_
    refine ⟨_, rfl, p, _, _, _, rfl, rfl, .of hp, rfl, _, rfl, _, _, rfl, rfl, _, _, _, rfl, _, rfl, ?_⟩
    rw [decide_eq_true (by omega)]
    refine itT rfl ?_
    refine ⟨_, rfl, p, _, _, _, rfl, rfl, .of hp, rfl, _, rfl, p, _, _, _, rfl, rfl, .of hp, rfl, rfl, ?_⟩
    have e : (!decide (V.int (c.first : Int) = V.int (c.last : Int))) = true := by
      have := decIN ok.ne
      simpa using this
    rw [e]
    exact q
end
end Cp
end

section
set_option Elab.async false
set_option linter.all false
set_option maxRecDepth 100000
set_option maxHeartbeats 4000000
namespace Cp
open PySem PySem.Spec PyProof.Rows L2
section
variable {P : Program} {w : World} {K : PySem.W.Frag} {mg : Str → Option Value} {base : Heap}
/-! is_machine -/
def sp_is_machine : Sp := fun vs H Q _ => ∃ (v : V) (m : Mach), vs = [v] ∧ RD H v (dM m) ∧ m.Ok ∧ ∀ H', Ex H H' → Q (.bl true) H'
theorem ok_is_machine (T : Tx mg) (D : Def K mg "is_machine" s_is_machine) (C_is_between : Cal P w K mg base CX0 "is_between" 1 ["thing", "low", "high"] sp_is_between) (C_is_arities : Cal P w K mg base CX0 "is_arities" 2 ["thing"] sp_is_arities)
    (C_is_instruction : Cal P w K mg base CX0 "is_instruction" 2 ["arities", "forms", "thing"] sp_is_instruction) (C_is_conversion : Cal P w K mg base CX0 "is_conversion" 2 ["forms", "thing"] sp_is_conversion) : Cal P w K mg base CX0 "is_machine" 3 ["thing"] sp_is_machine := by
  obtain ⟨f, fd, F, hm⟩ := D.ex
  refine ⟨f, fd, F.ok sc_is_machine (fun vs H Q E h => ?_) (fun cdv A outer s H vs Q E hr h => ?_), hm, F.kp, F.binds fun _ _ _ _ _ _ us hl => match us, hl with | [_], _ => rfl⟩
  · obtain ⟨v, m, rfl, _⟩ := h
    rfl
  · obtain ⟨v, m, rfl, hM, ok, q⟩ := h
    obtain ⟨p, pa, pi, pc, ai, ac, M⟩ := hM.mv
    cases M.e
    have n1 := ok.n1
    have n4 := ok.n4
    have la : ai.length = m.ins.length := by rw [M.ri.length, List.length_map]
    have lc : ac.length = m.cv.length := by rw [M.rc.length, List.length_map]
    have iN := ok.iN
    have cN := ok.cN
    refine ⟨_, (pss_cons (ps_if (PW.pt (pw_or (pt_not (pt_val (pe_callB (kc_isi K) (by rfl) T.isinstance boot_isinstance (pa_cons (pv 0) (pa_cons (pe_bltn (v := .ty "tuple") (by rfl) T.tuple boot_tuple rfl) pa_nil))))) (pw_or1 (pt_cmpR op_ne (pe_callB (kc_len K) (by rfl) T.len boot_len (pa_cons (pv 0) pa_nil)) pe_int (nomark _))))) (pss_one (ps_ret pe_bl)) pss_nil)
  (pss_cons (ps_asg (pv 0) (kg_tup K (n := 4) rfl (pgs_cons (pg_name (i := 1) sc_is_machine.nd rfl (by first | exact .inl rfl | exact .inr rfl)) (pgs_cons (pg_name (i := 2) sc_is_machine.nd rfl (by first | exact .inl rfl | exact .inr rfl)) (pgs_cons (pg_name (i := 3) sc_is_machine.nd rfl (by first | exact .inl rfl | exact .inr rfl)) (pgs_cons (pg_name (i := 4) sc_is_machine.nd rfl (by first | exact .inl rfl | exact .inr rfl)) pgs_nil))))))
  (pss_cons (ps_if (PW.pt (pw_or (pt_not (pt_val (pe_cal C_is_arities (by first | exact hr | exact hr.mono (by decide)) (by rfl) pass0 (pa_cons (pv 1) pa_nil)))) (pw_or1 (pt_not (pt_val (pe_cal C_is_between (by first | exact hr | exact hr.mono (by decide)) (by rfl) pass0 (pa_cons (pv 2) (pa_cons pe_int (pa_cons (pe_cst T.cMOST_FORMS) pa_nil))))))))) (pss_one (ps_ret pe_bl)) pss_nil)
  (pss_cons (ps_if (PW.pt (pw_or (pt_not (pt_val (pe_callB (kc_isi K) (by rfl) T.isinstance boot_isinstance (pa_cons (pv 3) (pa_cons (pe_bltn (v := .ty "tuple") (by rfl) T.tuple boot_tuple rfl) pa_nil))))) (pw_or1 (pt_cmpR op_gt (pe_callB (kc_len K) (by rfl) T.len boot_len (pa_cons (pv 3) pa_nil)) (pe_cst T.cMOST_INSTRUCTIONS) (nomark _))))) (pss_one (ps_ret pe_bl)) pss_nil)
  (pss_cons (ps_if (PW.pt (pw_or (pt_not (pt_val (pe_callB (kc_isi K) (by rfl) T.isinstance boot_isinstance (pa_cons (pv 4) (pa_cons (pe_bltn (v := .ty "tuple") (by rfl) T.tuple boot_tuple rfl) pa_nil))))) (pw_or1 (pt_cmpR op_gt (pe_callB (kc_len K) (by rfl) T.len boot_len (pa_cons (pv 4) pa_nil)) (pe_cst T.cMOST_CONVERSIONS) (nomark _))))) (pss_one (ps_ret pe_bl)) pss_nil)
  (pss_cons (ps_if (pt_not (pt_val (pe_callB (cr_all rfl) (by rfl) T.all boot_all (pa_cons (pe_lc (own := [("one", 5)]) rfl sc_is_machine.nd (ki_tup K (pv 3)) (blkOk_by (own := [("one", 5)]) (N := ["thing", "arities", "forms", "instructions", "conversions", "one"]) (sc := defScope s_is_machine) (by decide +kernel)) (fun _ _ _ _ _ => (pg_name (i := 5) sc_is_machine.nd rfl (by first | exact .inl rfl | exact .inr rfl))) (fun _ _ _ _ _ => pts_nil) (fun _ _ _ _ _ => (pe_cal C_is_instruction (by first | exact hr | exact hr.mono (by decide)) (by rfl) pass0 (pa_cons (pv 1) (pa_cons (pv 2) (pa_cons (pv 5) pa_nil)))))) pa_nil)))) (pss_one (ps_ret pe_bl)) pss_nil)
  (pss_one (ps_ret (pe_callB (cr_all rfl) (by rfl) T.all boot_all (pa_cons (pe_lc (own := [("one", 5)]) rfl sc_is_machine.nd (ki_tup K (pv 4)) (blkOk_by (own := [("one", 5)]) (N := ["thing", "arities", "forms", "instructions", "conversions", "one"]) (sc := defScope s_is_machine) (by decide +kernel)) (fun _ _ _ _ _ => (pg_name (i := 5) sc_is_machine.nd rfl (by first | exact .inl rfl | exact .inr rfl))) (fun _ _ _ _ _ => pts_nil) (fun _ _ _ _ _ => (pe_cal C_is_conversion (by first | exact hr | exact hr.mono (by decide)) (by rfl) pass0 (pa_cons (pv 2) (pa_cons (pv 5) pa_nil))))) pa_nil)))))))))), ?_⟩
    refine ⟨_, rfl, _, _, _, _, _, rfl, .ty _, .base (.tup M.at0), kit_tt, _, rfl, ?_⟩
    refine itF Bool.false_ne_true ?_
    refine ⟨_, rfl, p, _, rfl, .inr (.of M.at0), rfl, _, rfl, ?_⟩
    refine itF Bool.false_ne_true ?_
    refine ⟨_, rfl, p, _, rfl, .of M.at0, rfl, _, _, rfl, _, _, rfl, _, _, rfl, _, _, rfl, rfl, ?_⟩
    refine ⟨_, rfl, _, m.ar, rfl, .tup M.at1 (rds_n _), ok.a1, ok.a6, ok.a2, fun H0 ex0 => ⟨_, rfl, ?_⟩⟩
    refine itF Bool.false_ne_true ?_
    refine ⟨_, rfl, _, _, _, rfl, _, rfl, ?_⟩
    rw [decide_eq_true (by omega)]
    refine itF Bool.false_ne_true ?_
    have M0 := M.ex ex0.tu
    refine ⟨_, rfl, _, _, _, _, _, rfl, .ty _, .base (.tup M0.at2), kit_tt, _, rfl, ?_⟩
    refine itF Bool.false_ne_true ?_
    refine ⟨_, rfl, pi, _, rfl, .inr (.of M0.at2), _, _, rfl, rfl, _, rfl, ?_⟩
    refine itF (fun z => by have := of_decide_eq_true z; omega) ?_
    refine ⟨_, rfl, _, _, _, _, _, rfl, .ty _, .base (.tup M0.at3), kit_tt, _, rfl, ?_⟩
    refine itF Bool.false_ne_true ?_
    refine ⟨_, rfl, pc, _, rfl, .inr (.of M0.at3), _, _, rfl, rfl, _, rfl, ?_⟩
    refine itF (fun z => by have := of_decide_eq_true z; omega) ?_
    -- the instructions
    refine ⟨_, rfl, pi, rfl, ⟨_, .of M0.at2⟩, fun D2 hD => ?_⟩
    refine lc_it (walk_tup (xs := ai)) (fun i H' => Ex H H' ∧ H' D2 = some (.lst (tru i))) ⟨ex0.newT hD, upd_same⟩ (fun i H1 _ hP => SqT.of (hP.1 _ _ M.at2)) (fun i x _ H1 hi hP hy => ?_) (fun H1 hP => ?_)
    · obtain ⟨rfl, hx⟩ := hy
      obtain ⟨ex, hD1⟩ := hP
      have M1 := M.ex ex.tu
      obtain ⟨i1, e1, r1⟩ := rds_at M1.ri hx
      have oki := ok.ins i1 (List.mem_of_getElem? e1)
      refine ⟨rfl, _, rfl, _, rfl, _, rfl, _, _, m.ar, m.n, i1, rfl, .tup M1.at1 (rds_n _), r1, oki, ok.a2 _ (List.mem_of_getElem? oki.op), fun H2 ex2 => ?_⟩
      refine ⟨_, ex2 _ _ hD1, by rw [tru_len]; simp [sizeLine]; omega, (ex.trans ex2).mut (ex0.free hD), ?_⟩
      rw [upd_same, tru_snoc]
    · obtain ⟨ex, hD1⟩ := hP
      refine ⟨D2, _, rfl, .of hD1, ?_⟩
      rw [all_tru]
      refine ⟨_, rfl, ?_⟩
      refine itF Bool.false_ne_true ?_
      have M1 := M.ex ex.tu
      refine ⟨_, rfl, pc, rfl, ⟨_, .of M1.at3⟩, fun D3 hD3 => ?_⟩
      refine lc_it (walk_tup (xs := ac)) (fun i H' => Ex H H' ∧ H' D3 = some (.lst (tru i))) ⟨ex.newT hD3, upd_same⟩ (fun i H1 _ hP => SqT.of (hP.1 _ _ M.at3)) (fun i x _ H2 hi hP hy => ?_) (fun H2 hP => ?_)
      · obtain ⟨rfl, hx⟩ := hy
        obtain ⟨ex2, hD4⟩ := hP
        have M2 := M.ex ex2.tu
        obtain ⟨i1, e1, r1⟩ := rds_at M2.rc hx
        refine ⟨rfl, _, rfl, _, rfl, _, m.n, i1, rfl, r1, ok.cv i1 (List.mem_of_getElem? e1), ?_⟩
        refine ⟨_, hD4, by rw [tru_len]; simp [sizeLine]; omega, ex2.mut (ex.free hD3), ?_⟩
        rw [upd_same, tru_snoc]
      · obtain ⟨ex2, hD4⟩ := hP
        refine ⟨D3, _, rfl, .of hD4, ?_⟩
        rw [all_tru]
        exact q _ ex2
/-! need_machine -/
def sp_need_machine : Sp := fun vs H Q _ => ∃ (v : V) (m : Mach), vs = [v] ∧ RD H v (dM m) ∧ m.Ok ∧ ∀ H', Ex H H' → Q .non H'
theorem ok_need_machine (T : Tx mg) (D : Def K mg "need_machine" s_need_machine) (C_is_machine : Cal P w K mg base CX0 "is_machine" 3 ["thing"] sp_is_machine) : Cal P w K mg base CX0 "need_machine" 4 ["thing"] sp_need_machine := by
  obtain ⟨f, fd, F, hm⟩ := D.ex
  refine ⟨f, fd, F.ok sc_need_machine (fun vs H Q E h => ?_) (fun cdv A outer s H vs Q E hr h => ?_), hm, F.kp, F.binds fun _ _ _ _ _ _ us hl => match us, hl with | [_], _ => rfl⟩
  · obtain ⟨v, m, rfl, _⟩ := h
    rfl
  · obtain ⟨v, m, rfl, hM, ok, q⟩ := h
    refine ⟨_, (pss_one (ps_if (pt_not (pt_val (pe_cal C_is_machine (by first | exact hr | exact hr.mono (by decide)) (by rfl) pass0 (pa_cons (pv 0) pa_nil)))) (pss_one ps_never) pss_nil)), ?_⟩
    refine ⟨_, rfl, _, m, rfl, hM, ok, fun H0 ex0 => ⟨_, rfl, ?_⟩⟩
    exact itF Bool.false_ne_true (q _ ex0)
/-! trees -/
def dNd (d : Nd) : PyData := .tuple (dN d.1 :: d.2.map dN)
def dT (t : List Nd) : PyData := .tuple (t.map dNd)
theorem RD.nd {H : Hp} {v : V} {d : Nd} (h : RD H v (dNd d)) : ∃ a, v = .ref a ∧ H a = some (.tup (vN d.1 :: d.2.map vN)) := by
  obtain ⟨p, xs, rfl, e, r⟩ := h.inv_tup
  cases r with
  | cons h1 r =>
    cases h1.inv_int
    cases r.inv_n
    exact ⟨p, rfl, e⟩
theorem rd_nd {H : Hp} {a : Addr} {d : Nd} (e : H a = some (.tup (vN d.1 :: d.2.map vN))) : RD H (.ref a) (dNd d) := .tup e (.cons (.int _) (rds_n _))
theorem cut_tail (x : V) (xs : List V) : cutV (x :: xs) (some 1) none = xs := by
  unfold cutV
  rw [show HT.sIx (x :: xs).length 0 (some 1) = min 1 (x :: xs).length from HT.sIx_nat _ 0 1, HT.sIx_none, List.length_cons]
  rw [show min 1 (xs.length + 1) = 1 by omega, List.drop_succ_cons, List.drop_zero, Nat.add_sub_cancel, List.take_length]
/-- t[1:] of a tuple that is not empty is a new one -/
theorem slA_tail {H : Hp} {Q : VK} {a : Addr} {x : V} {xs : List V} (h : H a = some (.tup (x :: xs))) (q : ∀ p, H p = none → Q (.ref p) (upd H p (.tup xs))) : rSlA K (.ref a) (some 1) none H Q := by
  refine ⟨a, _, rfl, .of h, fun z => ?_, fun _ p hp => by rw [cut_tail]; exact q p hp⟩
  obtain ⟨z1, _⟩ := z
  rw [show HT.sIx (x :: xs).length 0 (some 1) = min 1 (x :: xs).length from HT.sIx_nat _ 0 1, List.length_cons] at z1
  omega
theorem nats_lay (ns : List Nat) : PyData.canLayAll0 (ns.map dN) = true := by
  induction ns with
  | nil => simp [PyData.canLayAll0]
  | cons i r ih => rw [List.map_cons, PyData.canLayAll0, ih]; simp [PyData.canLay0, dN]
theorem nats_depth (ns : List Nat) : PyData.depthAll (ns.map dN) = 0 := by
  induction ns with
  | nil => simp [PyData.depthAll]
  | cons i r ih => rw [List.map_cons, PyData.depthAll, ih]; simp [PyData.depth, dN]
theorem tup_shaped {ds : List PyData} {n : Nat} (h : PyData.canLayAll0 ds = true) (h2 : PyData.depthAll ds = n) (h3 : n < 64) : SeqAt.shaped (.tuple ds) = true := by
  show ((PyData.tuple ds).canLay0 && decide ((PyData.tuple ds).depth ≤ 64)) = true
  rw [PyData.canLay0, h, PyData.depth, h2, decide_eq_true (by omega)]
  rfl
theorem nil_shapedT : SeqAt.shaped (.tuple []) = true := tup_shaped (nats_lay []) (nats_depth []) (by decide)
theorem nd_nats (d : Nd) : dNd d = .tuple ((d.1 :: d.2).map dN) := rfl
theorem nd_lay (d : Nd) : (dNd d).canLay0 = true := by rw [nd_nats, PyData.canLay0]; exact nats_lay _
theorem nd_shaped (d : Nd) : SeqAt.shaped (dNd d) = true := tup_shaped (nats_lay _) (nats_depth _) (by decide)
theorem tup_ne_nil (d : PyData) (ds : List PyData) : PyData.eqv (.tuple (d :: ds)) (.tuple []) = false := by
  rw [PyData.eqv]
  simp [PyData.eqvAll]
theorem nds_lay : ∀ (t : List Nd), PyData.canLayAll0 (t.map dNd) = true
  | [] => by simp [PyData.canLayAll0]
  | d :: r => by rw [List.map_cons, PyData.canLayAll0, nd_lay, nds_lay r]; rfl
theorem nds_depth : ∀ (t : List Nd), PyData.depthAll (t.map dNd) ≤ 1
  | [] => by simp [PyData.depthAll]
  | d :: r => by
    have := nds_depth r
    rw [List.map_cons, PyData.depthAll, nd_nats, PyData.depth, nats_depth]
    omega
def sp_is_node : Sp := fun vs H Q _ => ∃ (va v : V) (ar : List Nat) (k : Nat) (d : Nd), vs = [va, v, vN k] ∧ RD H va (.tuple (ar.map dN)) ∧ RD H v (dNd d) ∧ OkN ar k d ∧ d.2.length ≤ 2 ∧ ∀ H', Ex H H' → Q (.bl true) H'
theorem ok_is_node (T : Tx mg) (D : Def K mg "is_node" s_is_node) (C_is_between : Cal P w K mg base CX0 "is_between" 1 ["thing", "low", "high"] sp_is_between) : Cal P w K mg base CX0 "is_node" 2 ["arities", "thing", "before"] sp_is_node := by
  obtain ⟨f, fd, F, hm⟩ := D.ex
  refine ⟨f, fd, F.ok sc_is_node (fun vs H Q E h => ?_) (fun cdv A outer s H vs Q E hr h => ?_), hm, F.kp, F.binds fun _ _ _ _ _ _ us hl => match us, hl with | [_, _, _], _ => rfl⟩
  · obtain ⟨va, v, ar, k, d, rfl, _⟩ := h
    rfl
  · obtain ⟨va, v, ar, k, d, rfl, hA, hN, ok, hd2, q⟩ := h
    obtain ⟨pa, rfl, hpa⟩ := hA.nats
    obtain ⟨p, rfl, hp⟩ := hN.nd
    have h2 : d.1 < ar.length := (List.getElem?_eq_some_iff.mp ok.op).1
    refine ⟨_, (pss_cons (ps_if (PW.pt (pw_or (pt_not (pt_val (pe_callB (kc_isi K) (by rfl) T.isinstance boot_isinstance (pa_cons (pv 1) (pa_cons (pe_bltn (v := .ty "tuple") (by rfl) T.tuple boot_tuple rfl) pa_nil))))) (pw_or (pt_cmpR (ko_eq K hr.units) (pv 1) (pe_tup pa_nil) (nomark _)) (pw_or1 (pt_not (pt_val (pe_cal C_is_between (by first | exact hr | exact hr.mono (by decide)) (by rfl) pass0 (pa_cons (pe_ix (kx_tup K) (pv 1) pe_int (fun _ _ => rfl)) (pa_cons pe_int (pa_cons (pe_op op_sub (pe_callB (kc_len K) (by rfl) T.len boot_len (pa_cons (pv 0) pa_nil)) pe_int) pa_nil)))))))))) (pss_one (ps_ret pe_bl)) pss_nil)
  (pss_cons (ps_if (pt_cmpR op_ne (pe_callB (kc_len K) (by rfl) T.len boot_len (pa_cons (pv 1) pa_nil)) (pe_op op_add pe_int (pe_ix (kx_tup K) (pv 0) (pe_ix (kx_tup K) (pv 1) pe_int (fun _ _ => rfl)) (fun _ _ => rfl))) (nomark _)) (pss_one (ps_ret pe_bl)) pss_nil)
  (pss_one (ps_ret (pe_callB (cr_all rfl) (by rfl) T.all boot_all (pa_cons (pe_lc (own := [("node", 3)]) rfl sc_is_node.nd (ki_tup K (pe_slice (kl_tup K) (pv 1) (po_some pe_int) po_none)) (blkOk_by (own := [("node", 3)]) (N := ["arities", "thing", "before", "node"]) (sc := defScope s_is_node) (by decide +kernel)) (fun _ _ _ _ _ => (pg_name (i := 3) sc_is_node.nd rfl (by first | exact .inl rfl | exact .inr rfl))) (fun _ _ _ _ _ => pts_nil) (fun _ _ _ _ _ => (pe_cal C_is_between (by first | exact hr | exact hr.mono (by decide)) (by rfl) pass0 (pa_cons (pv 3) (pa_cons pe_int (pa_cons (pe_op op_sub (pv 2) pe_int) pa_nil)))))) pa_nil)))))), ?_⟩
    refine ⟨_, rfl, _, _, _, _, _, rfl, .ty _, .base (.tup hp), kit_tt, _, rfl, ?_⟩
    refine itF Bool.false_ne_true ?_
    refine ⟨_, rfl, by simp, fun z hz => ?_⟩
    have ex0 : Ex H (upd H z (.tup [])) := Ex.new hz
    refine ⟨dNd d, .tuple [], ((rd_nd hp).ex ex0).dp, (RD.tup upd_same .nil).dp, nd_shaped d, nil_shapedT, _, rfl, ?_⟩
    rw [show PyData.eqv (dNd d) (.tuple []) = false from tup_ne_nil _ _]
    refine itF Bool.false_ne_true ?_
    have hp0 := ex0 _ _ hp
    have hpa0 := ex0 _ _ hpa
    refine ⟨_, rfl, p, _, _, _, rfl, rfl, .of hp0, atI_nat (j := 0) rfl, _, rfl, pa, _, rfl, .inr (.of hpa0), _, _, rfl, rfl, _, _, _, rfl, _, rfl, ?_⟩
    rw [decide_eq_true (by rw [List.length_map]; omega)]
    refine itF Bool.false_ne_true ?_
    refine ⟨_, rfl, p, _, rfl, .inr (.of hp0), _, rfl, _, rfl, p, _, _, _, rfl, rfl, .of hp0, atI_nat (j := 0) rfl, pa, _, _, _, rfl, rfl, .of hpa0, atI_nat (by rw [List.getElem?_map, ok.op]; rfl), _, _, rfl, rfl, rfl, _, rfl, ?_⟩
    rw [show ((vN d.1 :: d.2.map vN).length : Int) = 1 + (d.2.length : Int) by rw [List.length_cons, List.length_map]; omega]
    refine itF (by rw [decide_eq_true rfl]; exact Bool.false_ne_true) ?_
    refine ⟨_, rfl, 1, rfl, ?_⟩
    unfold tNoPart
    refine slA_tail hp0 fun t ht => ?_
    have ex1 := ex0.newT (o := .tup (d.2.map vN)) ht
    refine ⟨t, rfl, ⟨_, .of upd_same⟩, fun D2 hD => ?_⟩
    refine lc_it (walk_tup (xs := d.2.map vN)) (fun j H' => Ex H H' ∧ H' t = some (.tup (d.2.map vN)) ∧ H' D2 = some (.lst (tru j))) ⟨ex1.newT hD, Ex.new hD _ _ upd_same, upd_same⟩ (fun j H1 _ hP => SqT.of hP.2.1) (fun j x _ H1 hj hP hy => ?_) (fun H1 hP => ?_)
    · obtain ⟨rfl, hx⟩ := hy
      obtain ⟨ex, ht1, hD1⟩ := hP
      rw [List.length_map] at hj
      rw [List.getElem?_map, List.getElem?_eq_getElem hj] at hx
      cases hx
      have := ok.args d.2[j] (List.getElem_mem hj)
      refine ⟨rfl, _, rfl, _, rfl, _, _, rfl, rfl, _, _, _, rfl, _, hD1, by rw [tru_len]; simp [sizeLine]; omega, ex.mut (ex1.free hD), ?_, ?_⟩
      · rw [upd_ne (fun e => by rw [e, hD1] at ht1; cases ht1)]
        exact ht1
      · rw [upd_same, tru_snoc, decide_eq_true (by omega)]
    · obtain ⟨ex, _, hD1⟩ := hP
      refine ⟨D2, _, rfl, .of hD1, ?_⟩
      rw [all_tru]
      exact q _ ex
def sp_is_written : Sp := fun vs H Q _ => ∃ (va v : V) (ar : List Nat) (t : List Nd), vs = [va, v] ∧ RD H va (.tuple (ar.map dN)) ∧ RD H v (dT t) ∧ OkT ar t ∧ ∀ H', Ex H H' → Q (.bl true) H'
theorem ok_is_written (T : Tx mg) (D : Def K mg "is_written" s_is_written) (C_is_node : Cal P w K mg base CX0 "is_node" 2 ["arities", "thing", "before"] sp_is_node) : Cal P w K mg base CX0 "is_written" 3 ["arities", "thing"] sp_is_written := by
  obtain ⟨f, fd, F, hm⟩ := D.ex
  refine ⟨f, fd, F.ok sc_is_written (fun vs H Q E h => ?_) (fun cdv A outer s H vs Q E hr h => ?_), hm, F.kp, F.binds fun _ _ _ _ _ _ us hl => match us, hl with | [_, _], _ => rfl⟩
  · obtain ⟨va, v, ar, t, rfl, _⟩ := h
    rfl
  · obtain ⟨va, v, ar, t, rfl, hA, hT, ok, q⟩ := h
    obtain ⟨pa, rfl, hpa⟩ := hA.nats
    obtain ⟨p, xs, rfl, hp, hxs⟩ := hT.inv_tup
    have lx : xs.length = t.length := by rw [hxs.length, List.length_map]
    have ol := ok.len
    refine ⟨_, (pss_cons (ps_if (PW.pt (pw_or (pt_not (pt_val (pe_callB (kc_isi K) (by rfl) T.isinstance boot_isinstance (pa_cons (pv 1) (pa_cons (pe_bltn (v := .ty "tuple") (by rfl) T.tuple boot_tuple rfl) pa_nil))))) (pw_or1 (pt_cmpR (ko_eq K hr.units) (pv 1) (pe_tup pa_nil) (nomark _))))) (pss_one (ps_ret pe_bl)) pss_nil)
  (pss_one (ps_ret (pe_callB (cr_all rfl) (by rfl) T.all boot_all (pa_cons (pe_lc (own := [("at", 2), ("node", 3)]) rfl sc_is_written.nd (pi_enumT (by rfl) T.enumerate (pa_cons (pv 1) pa_nil)) (blkOk_by (own := [("at", 2), ("node", 3)]) (N := ["arities", "thing", "at", "node"]) (sc := defScope s_is_written) (by decide +kernel)) (fun _ _ _ _ _ => (kg_tup K (n := 2) rfl (pgs_cons (pg_name (i := 2) sc_is_written.nd rfl (by first | exact .inl rfl | exact .inr rfl)) (pgs_cons (pg_name (i := 3) sc_is_written.nd rfl (by first | exact .inl rfl | exact .inr rfl)) pgs_nil)))) (fun _ _ _ _ _ => pts_nil) (fun _ _ _ _ _ => (pe_cal C_is_node (by first | exact hr | exact hr.mono (by decide)) (by rfl) pass0 (pa_cons (pv 0) (pa_cons (pv 3) (pa_cons (pv 2) pa_nil)))))) pa_nil))))), ?_⟩
    refine ⟨_, rfl, _, _, _, _, _, rfl, .ty _, .base (.tup hp), kit_tt, _, rfl, ?_⟩
    refine itF Bool.false_ne_true ?_
    refine ⟨_, rfl, by simp, fun z hz => ?_⟩
    have ex0 : Ex H (upd H z (.tup [])) := Ex.new hz
    refine ⟨dT t, .tuple [], ((RD.tup hp hxs).ex ex0).dp, (RD.tup upd_same .nil).dp, tup_shaped (nds_lay t) rfl (by have := nds_depth t; omega), nil_shapedT, _, rfl, ?_⟩
    rw [show PyData.eqv (dT t) (.tuple []) = false by
      cases ht : t with
      | nil => exact absurd ht ok.ne
      | cons d r => exact tup_ne_nil _ _]
    refine itF Bool.false_ne_true ?_
    have hp0 := ex0 _ _ hp
    refine ⟨_, rfl, p, xs, rfl, .of hp0, fun D2 hD => ?_⟩
    refine lc_it walk_n (fun j H' => Ex H H' ∧ H' D2 = some (.lst (tru j))) ⟨ex0.newT hD, upd_same⟩ (fun j H1 hj hP => .of (hP.1 _ _ hp)) (fun j x H1 H2 hj hP hy => ?_) (fun H1 hP => ?_)
    · obtain ⟨T1, y1, y2, rfl, nT, rfl, e1, e2⟩ := hy
      cases e1
      replace e2 : xs[j]? = some y2 := e2
      obtain ⟨ex, hD1⟩ := hP
      have ex1 := ex.newT (o := .tup [.int (j : Nat), y2]) nT
      obtain ⟨d, hd, hrd⟩ := rds_at (hxs.ex ex1) e2
      have okd := ok.nd j d hd
      refine ⟨T1, _, rfl, SqT.of upd_same, rfl, _, _, rfl, _, _, rfl, rfl, rfl, ?_⟩
      refine ⟨_, rfl, _, rfl, _, rfl, _, y2, ar, j, d, rfl, .tup (ex1 _ _ hpa) (rds_n _), hrd, okd, ok.a2 _ (List.mem_of_getElem? okd.op), fun H3 ex3 => ?_⟩
      refine ⟨_, ex3 _ _ (Ex.new nT _ _ hD1), by rw [tru_len]; simp [sizeLine]; omega, (ex1.trans ex3).mut (ex0.free hD), ?_⟩
      rw [upd_same, tru_snoc]
    · obtain ⟨ex, hD1⟩ := hP
      refine ⟨D2, _, rfl, .of hD1, ?_⟩
      rw [all_tru]
      exact q _ ex
def sp_need_tree : Sp := fun vs H Q _ => ∃ (va v : V) (ar : List Nat) (t : List Nd), vs = [va, v] ∧ RD H va (.tuple (ar.map dN)) ∧ RD H v (dT t) ∧ OkT ar t ∧ ∀ H', Ex H H' → Q .non H'
theorem ok_need_tree (T : Tx mg) (D : Def K mg "need_tree" s_need_tree) (C_is_written : Cal P w K mg base CX0 "is_written" 3 ["arities", "thing"] sp_is_written) : Cal P w K mg base CX0 "need_tree" 4 ["arities", "thing"] sp_need_tree := by
  obtain ⟨f, fd, F, hm⟩ := D.ex
  refine ⟨f, fd, F.ok sc_need_tree (fun vs H Q E h => ?_) (fun cdv A outer s H vs Q E hr h => ?_), hm, F.kp, F.binds fun _ _ _ _ _ _ us hl => match us, hl with | [_, _], _ => rfl⟩
  · obtain ⟨va, v, ar, t, rfl, _⟩ := h
    rfl
  · obtain ⟨va, v, ar, t, rfl, hA, hT, ok, q⟩ := h
    refine ⟨_, (pss_one (ps_if (pt_not (pt_val (pe_cal C_is_written (by first | exact hr | exact hr.mono (by decide)) (by rfl) pass0 (pa_cons (pv 0) (pa_cons (pv 1) pa_nil))))) (pss_one ps_never) pss_nil)), ?_⟩
    refine ⟨_, rfl, _, rfl, _, _, ar, t, rfl, hA, hT, ok, fun H0 ex0 => ⟨_, rfl, ?_⟩⟩
    exact itF Bool.false_ne_true (q _ ex0)
def sp_need_machine_and_tree : Sp := fun vs H Q _ => ∃ (v u : V) (m : Mach) (t : List Nd), vs = [v, u] ∧ RD H v (dM m) ∧ m.Ok ∧ RD H u (dT t) ∧ OkT m.ar t ∧ ∀ H', Ex H H' → Q .non H'
theorem ok_need_machine_and_tree (T : Tx mg) (D : Def K mg "need_machine_and_tree" s_need_machine_and_tree) (C_need_machine : Cal P w K mg base CX0 "need_machine" 4 ["thing"] sp_need_machine) (C_need_tree : Cal P w K mg base CX0 "need_tree" 4 ["arities", "thing"] sp_need_tree) :
    Cal P w K mg base CX0 "need_machine_and_tree" 5 ["machine", "tree"] sp_need_machine_and_tree := by
  obtain ⟨f, fd, F, hm⟩ := D.ex
  refine ⟨f, fd, F.ok sc_need_machine_and_tree (fun vs H Q E h => ?_) (fun cdv A outer s H vs Q E hr h => ?_), hm, F.kp, F.binds fun _ _ _ _ _ _ us hl => match us, hl with | [_, _], _ => rfl⟩
  · obtain ⟨v, u, m, t, rfl, _⟩ := h
    rfl
  · obtain ⟨v, u, m, t, rfl, hM, ok, hT, okt, q⟩ := h
    obtain ⟨p, pa, pi, pc, ai, ac, M⟩ := hM.mv
    cases M.e
    refine ⟨_, (pss_cons (ps_expr (pe_cal C_need_machine (by first | exact hr | exact hr.mono (by decide)) (by rfl) pass0 (pa_cons (pv 0) pa_nil)))
  (pss_one (ps_expr (pe_cal C_need_tree (by first | exact hr | exact hr.mono (by decide)) (by rfl) pass0 (pa_cons (pe_ix (kx_tup K) (pv 0) pe_int (fun _ _ => rfl)) (pa_cons (pv 1) pa_nil)))))), ?_⟩
    refine ⟨_, rfl, _, m, rfl, hM, ok, fun H0 ex0 => ?_⟩
    have M0 := M.ex ex0.tu
    refine ⟨_, rfl, p, _, _, _, rfl, rfl, .of M0.at0, rfl, _, rfl, _, _, m.ar, t, rfl, .tup M0.at1 (rds_n _), hT.ex ex0, okt, fun H1 ex1 => ?_⟩
    exact q _ (ex0.trans ex1)
end
end Cp
end

section
set_option Elab.async false
set_option linter.all false
set_option maxRecDepth 100000
set_option maxHeartbeats 4000000
namespace Cp
open PySem PySem.Spec PyProof.Rows L2
theorem rowsF_take {m : Mach} {t : List Nd} {k : Nat} {d : Nd} (h : t[k]? = some d) : rowsF m (t.take (k + 1)) = rowsF m (t.take k) ++ [jrow m d.1 (d.2.map fun a => (rowsF m (t.take k)).getD a [])] := by
  rw [List.take_succ, h]
  unfold rowsF
  rw [List.foldl_append]
  rfl
theorem rowsF_len (m : Mach) : ∀ (t : List Nd), (rowsF m t).length = t.length := by
  intro t
  unfold rowsF
  suffices ∀ (rs : List Row), (t.foldl (rowsS m) rs).length = rs.length + t.length by rw [this]; simp
  induction t with
  | nil => intro rs; rfl
  | cons d r ih => intro rs; rw [List.foldl_cons, ih, rowsS, List.length_append, List.length_cons]; simp; omega
theorem rowsF_row (m : Mach) : ∀ (t : List Nd), ∀ r ∈ rowsF m t, r.length = m.n := by
  intro t
  unfold rowsF
  suffices ∀ (rs : List Row), (∀ r ∈ rs, r.length = m.n) → ∀ r ∈ t.foldl (rowsS m) rs, r.length = m.n from this [] (by simp)
  induction t with
  | nil => exact fun rs h => h
  | cons d r ih =>
    intro rs h
    refine ih _ fun x hx => ?_
    rcases List.mem_append.mp hx with hx | hx
    · exact h x hx
    · rw [List.mem_singleton.mp hx, jrow_len]
theorem RDs.last {H : Hp} {xs : List V} {ds : List PyData} {d : PyData} (r : RDs H xs ds) (h : ds.getLast? = some d) : ∃ x, atI xs (-1) = some x ∧ RD H x d := by
  rw [List.getLast?_eq_getElem?] at h
  obtain ⟨x, e, hx⟩ := r.at h
  rw [← r.length] at e
  have hl : 0 < xs.length := by
    cases xs with
    | nil => simp at e
    | cons _ _ => simp
  refine ⟨x, ?_, hx⟩
  unfold atI
  have : ixN xs.length (-1) = some (xs.length - 1) := by
    unfold ixN
    rw [if_neg (by omega), if_pos (by omega)]
    congr 1
    omega
  rw [this]
  exact e
section
variable {P : Program} {w : World} {K : PySem.W.Frag} {mg : Str → Option Value} {base : Heap}
/-! rows_of, prices -/
def sp_rows_of : Sp := fun vs H Q _ => ∃ (v u : V) (m : Mach) (t : List Nd), vs = [v, u] ∧ RD H v (dM m) ∧ m.Ok ∧ RD H u (dT t) ∧ OkT m.ar t ∧
  ∀ (l : Addr) (xs : List V) (H' : Hp), Ex H H' → H' l = some (.lst xs) → RDs H' xs ((rowsF m t).map dS) → Q (.ref l) H'
theorem ok_rows_of (T : Tx mg) (D : Def K mg "rows_of" s_rows_of) (C_ways_of : Cal P w K mg base CX0 "ways_of" 2 ["machine"] sp_ways_of) (C_joined_row : Cal P w K mg base CX0 "joined_row" 3 ["machine", "ways", "operator", "rows"] (sp_joined_row K)) :
    Cal P w K mg base CX0 "rows_of" 4 ["machine", "tree"] sp_rows_of := by
  obtain ⟨f, fd, F, hm⟩ := D.ex
  refine ⟨f, fd, F.ok sc_rows_of (fun vs H Q E h => ?_) (fun cdv A outer s H vs Q E hr h => ?_), hm, F.kp, F.binds fun _ _ _ _ _ _ us hl => match us, hl with | [_, _], _ => rfl⟩
  · obtain ⟨v, u, m, t, rfl, _⟩ := h
    rfl
  · obtain ⟨v, u, m, t, rfl, hM, ok, hT, okt, q⟩ := h
    obtain ⟨pt, ts, rfl, hpt, hts⟩ := hT.inv_tup
    have lt : ts.length = t.length := by rw [hts.length, List.length_map]
    have tl := okt.len
    refine ⟨_, (pss_cons (ps_asg (pe_tup (pa_cons (pe_cal C_ways_of (by first | exact hr | exact hr.mono (by decide)) (by rfl) pass0 (pa_cons (pv 0) pa_nil)) (pa_cons (pe_lst pa_nil) pa_nil))) (kg_tup K (n := 2) rfl (pgs_cons (pg_name (i := 2) sc_rows_of.nd rfl (by first | exact .inl rfl | exact .inr rfl)) (pgs_cons (pg_name (i := 3) sc_rows_of.nd rfl (by first | exact .inl rfl | exact .inr rfl)) pgs_nil))))
  (pss_cons (ps_for PassesOwn.never rfl (ki_tup K (pv 1)) (pg_name (i := 4) sc_rows_of.nd rfl (by first | exact .inl rfl | exact .inr rfl))
  (pss_one (ps_expr (pe_bm PySem.F.plainAttrs_list PySem.F.slot_list_append PySem.F.type_list_append mt_append (pv 3) (pa_cons (pe_cal C_joined_row (by first | exact hr | exact hr.mono (by decide)) (by rfl) pass0 (pa_cons (pv 0) (pa_cons (pv 2) (pa_cons (pe_ix (kx_tup K) (pv 4) pe_int (fun _ _ => rfl)) (pa_cons (pe_lc (own := [("part", 5)]) rfl sc_rows_of.nd (ki_tup K (pe_slice (kl_tup K) (pv 4) (po_some pe_int) po_none)) (blkOk_by (own := [("part", 5)]) (N := ["machine", "tree", "ways", "found", "node", "part"]) (sc := defScope s_rows_of) (by decide +kernel)) (fun _ _ _ _ _ => (pg_name (i := 5) sc_rows_of.nd rfl (by first | exact .inl rfl | exact .inr rfl))) (fun _ _ _ _ _ => pts_nil) (fun _ _ _ _ _ => (pe_ix (kx_list K) (pv 3) (pv 5) (fun _ _ => rfl)))) pa_nil))))) pa_nil)))))
  (pss_one (ps_ret (pv 3))))), ?_⟩
    refine ⟨_, rfl, v, m, rfl, hM, ok.n4, fun c hc => ⟨(ok.cv c hc).first, (ok.cv c hc).last⟩, fun a as H0 ex0 hW hd => ?_⟩
    refine ⟨by simp, fun l hl => ⟨by simp [sizeLine], fun tt htt => ?_⟩⟩
    refine ⟨tt, _, rfl, .of upd_same, rfl, _, _, rfl, _, _, rfl, rfl, ?_⟩
    have ex1 : Ex H (upd (upd H0 l (.lst [])) tt (.tup [.ref a, .ref l])) := (ex0.newT hl).newT htt
    have e01 : Ex H0 (upd (upd H0 l (.lst [])) tt (.tup [.ref a, .ref l])) := (Ex.new hl).newT htt
    have hl1 : upd (upd H0 l (.lst [])) tt (.tup [.ref a, .ref l]) l = some (.lst []) := Ex.new htt _ _ upd_same
    generalize hH1 : upd (upd H0 l (.lst [])) tt (.tup [.ref a, .ref l]) = H1 at ex1 e01 hl1
    refine ⟨_, rfl, pt, rfl, ⟨ts, .of (ex1 _ _ hpt)⟩, ?_⟩
    refine for_it (walk_tup (xs := ts)) (fun i σ H' => (∃ x4 x5, σ = [some v, some (.ref pt), some (.ref a), some (.ref l), x4, x5]) ∧ Ex H0 H' ∧ ∃ xs, H' l = some (.lst xs) ∧ RDs H' xs ((rowsF m (t.take i)).map dS)) ⟨⟨_, _, rfl⟩, e01, [], hl1, .nil⟩ (fun i σ H2 _ hP => .of (hP.2.1 _ _ (ex0 _ _ hpt))) (fun i x σ _ H2 hi hP hy => ?_) (fun σ H2 hP => ?_)
    · obtain ⟨rfl, hx⟩ := hy
      obtain ⟨⟨x4, x5, rfl⟩, ex2, xs, hl2, hxs⟩ := hP
      have ex02 := ex0.trans ex2
      obtain ⟨d, hd1, hrd⟩ := rds_at (hts.ex ex02) hx
      have okd := okt.nd i d hd1
      have hd2 : d.2.length ≤ 2 := okt.a2 _ (List.mem_of_getElem? okd.op)
      have rl := rowsF_len m (t.take i)
      have ri : (t.take i).length = i := by rw [List.length_take]; omega
      have xl := hxs.length
      rw [List.length_map, rl, ri] at xl
      obtain ⟨pn, rfl, hpn⟩ := hrd.nd
      refine ⟨_, rfl, .inl ⟨rfl, xs, .of hl2⟩, ?_⟩
      refine ⟨_, rfl, _, rfl, _, rfl, pn, _, _, _, rfl, rfl, .of hpn, atI_nat (j := 0) rfl, ?_⟩
      refine ⟨_, rfl, 1, rfl, ?_⟩
      unfold tNoPart
      refine slA_tail hpn fun z hz => ?_
      have ex3 := ex2.newT (o := .tup (d.2.map vN)) hz
      refine ⟨z, rfl, ⟨_, .of upd_same⟩, fun D2 hD => ?_⟩
      have eD := Ex.new (o := .tup (d.2.map vN)) hz
      refine lc_it (walk_tup (xs := d.2.map vN)) (fun j H' => Ex (upd H2 z (.tup (d.2.map vN))) H' ∧ ∃ ys, H' D2 = some (.lst ys) ∧ RDs H' ys (((d.2.map fun a => (rowsF m (t.take i)).getD a []).take j).map dS)) ⟨Ex.new hD, [], upd_same, .nil⟩ (fun j H3 _ hP => .of (hP.1 _ _ upd_same)) (fun j x _ H3 hj hP hy => ?_) (fun H3 hP => ?_)
      · obtain ⟨rfl, hx2⟩ := hy
        obtain ⟨ex4, ys, hys, rys⟩ := hP
        rw [List.length_map] at hj
        rw [List.getElem?_map, List.getElem?_eq_getElem hj] at hx2
        cases hx2
        have ha := okd.args d.2[j] (List.getElem_mem hj)
        have hg : (rowsF m (t.take i))[d.2[j]]? = some ((rowsF m (t.take i)).getD d.2[j] []) := by
          rw [List.getElem?_eq_getElem (by omega), getD_at (List.getElem?_eq_getElem (by omega))]
        obtain ⟨y, hy1, hy2⟩ := hxs.at (i := d.2[j]) (d := dS ((rowsF m (t.take i)).getD d.2[j] [])) (by rw [List.getElem?_map, hg]; rfl)
        have ex5 := eD.trans ex4
        have hlx := ex5 _ _ hl2
        refine ⟨rfl, _, rfl, _, rfl, l, xs, _, y, rfl, rfl, .of hlx, atI_nat hy1, ys, hys, by rw [rys.length, List.length_map, List.length_take, List.length_map]; simp [sizeLine]; omega, ex4.mut hD, _, upd_same, ?_⟩
        have tu := Tu.lst (o := .lst (ys ++ [y])) hys
        rw [List.take_succ, List.map_append]
        refine (rys.tu tu).app ?_
        rw [List.getElem?_map, List.getElem?_eq_getElem hj]
        exact .cons ((hy2.ex ex5).tu tu) .nil
      · obtain ⟨ex4, ys, hys, rys⟩ := hP
        rw [List.take_of_length_le (by simp)] at rys
        have ex5 := eD.trans ex4
        have ex6 := ex2.trans ex5
        refine ⟨v, .ref a, m, d.1, D2, ys, _, rfl, hM.ex (ex0.trans ex6), ok, ⟨a, as, rfl, hW.ex ex6⟩, .of hys, rys, fun r hr => ?_, fun v' H4 ex7 hv' => ?_⟩
        · obtain ⟨a1, ha1, rfl⟩ := List.mem_map.mp hr
          have := okd.args a1 ha1
          rw [getD_at (List.getElem?_eq_getElem (by omega))]
          exact rowsF_row m _ _ (List.getElem_mem _)
        · have hl4 := ex7 _ _ (ex5 _ _ hl2)
          have ex8 := ex6.trans ex7
          have tu := Tu.lst (o := .lst (xs ++ [v'])) hl4
          refine ⟨l, xs, v', rfl, rfl, hl4, by simp [sizeLine]; omega, ⟨_, _, rfl⟩, ex8.mut hl, _, upd_same, ?_⟩
          rw [rowsF_take hd1, List.map_append]
          exact ((hxs.ex (ex5.trans ex7)).tu tu).app (.cons (hv'.tu tu) .nil)
    · obtain ⟨⟨x4, x5, rfl⟩, ex2, xs, hl2, hxs⟩ := hP
      rw [List.take_of_length_le (by omega)] at hxs
      exact ⟨_, rfl, q l xs H2 (ex0.trans ex2) hl2 hxs⟩
def sp_prices : Sp := fun vs H Q _ => ∃ (v u : V) (m : Mach) (t : List Nd), vs = [v, u] ∧ RD H v (dM m) ∧ m.Ok ∧ RD H u (dT t) ∧ OkT m.ar t ∧
  ∀ (r : Row) (v' : V) (H' : Hp), Ex H H' → (rowsF m t).getLast? = some r → RD H' v' (dS r) → Q v' H'
theorem ok_prices (T : Tx mg) (D : Def K mg "prices" s_prices) (C_need_machine_and_tree : Cal P w K mg base CX0 "need_machine_and_tree" 5 ["machine", "tree"] sp_need_machine_and_tree) (C_rows_of : Cal P w K mg base CX0 "rows_of" 4 ["machine", "tree"] sp_rows_of) :
    Cal P w K mg base CX0 "prices" 6 ["machine", "tree"] sp_prices := by
  obtain ⟨f, fd, F, hm⟩ := D.ex
  refine ⟨f, fd, F.ok sc_prices (fun vs H Q E h => ?_) (fun cdv A outer s H vs Q E hr h => ?_), hm, F.kp, F.binds fun _ _ _ _ _ _ us hl => match us, hl with | [_, _], _ => rfl⟩
  · obtain ⟨v, u, m, t, rfl, _⟩ := h
    rfl
  · obtain ⟨v, u, m, t, rfl, hM, ok, hT, okt, q⟩ := h
    refine ⟨_, (pss_cons (ps_expr (pe_cal C_need_machine_and_tree (by first | exact hr | exact hr.mono (by decide)) (by rfl) pass0 (pa_cons (pv 0) (pa_cons (pv 1) pa_nil))))
  (pss_one (ps_ret (pe_ix (kx_list K) (pe_cal C_rows_of (by first | exact hr | exact hr.mono (by decide)) (by rfl) pass0 (pa_cons (pv 0) (pa_cons (pv 1) pa_nil))) (pe_un un_neg pe_int) (fun _ _ => rfl))))), ?_⟩
    refine ⟨_, rfl, _, rfl, v, u, m, t, rfl, hM, ok, hT, okt, fun H0 ex0 => ?_⟩
    refine ⟨_, rfl, _, rfl, v, u, m, t, rfl, hM.ex ex0, ok, hT.ex ex0, okt, fun l xs H1 ex1 hl hxs => ?_⟩
    have hne : (rowsF m t).length ≠ 0 := by
      rw [rowsF_len]
      have := okt.ne
      cases t with
      | nil => exact absurd rfl this
      | cons _ _ => simp
    cases hr1 : (rowsF m t).getLast? with
    | none =>
      rw [List.getLast?_eq_none_iff] at hr1
      rw [hr1] at hne
      exact absurd rfl hne
    | some r =>
      obtain ⟨x, hx1, hx2⟩ := hxs.last (d := dS r) (by rw [List.getLast?_map, hr1]; rfl)
      exact ⟨_, rfl, l, xs, -1, x, rfl, rfl, .of hl, hx1, q r x H1 (ex0.trans ex1) hr1 hx2⟩
end
end Cp
end

section
set_option Elab.async false
set_option linter.all false
set_option maxRecDepth 100000
set_option maxHeartbeats 4000000
namespace Cp
open PySem PySem.Spec PyProof.Rows L2
def dNds (l : List Nd) : List PyData := l.map fun d => .tuple [dN d.1, .tuple (d.2.map dN)]
/-- a step: (operator, numbers) -/
def dStp (d : Nd) : PyData := .tuple [dN d.1, .tuple (d.2.map dN)]
theorem RD.stp {H : Hp} {v : V} {d : Nd} (h : RD H v (dStp d)) : ∃ a b, v = .ref a ∧ H a = some (.tup [vN d.1, .ref b]) ∧ H b = some (.tup (d.2.map vN)) := by
  obtain ⟨p, xs, rfl, e, r⟩ := h.inv_tup
  cases r with
  | cons h1 r =>
    cases r with
    | cons h2 r =>
      cases r
      cases h1.inv_int
      obtain ⟨b, rfl, hb⟩ := h2.nats
      exact ⟨p, b, rfl, e, hb⟩
theorem rd_stp {H : Hp} {a b : Addr} {op : Nat} {ns : List Nat} (h : H a = some (.tup [vN op, .ref b])) (h2 : H b = some (.tup (ns.map vN))) : RD H (.ref a) (dStp (op, ns)) := .tup h (.cons (.int _) (.cons (.tup h2 (rds_n _)) .nil))
theorem somes_take {r : Row} {i : Nat} (h : i < r.length) : somes (r.take (i + 1)) = somes (r.take i) ++ (r.getD i none).toList := by
  rw [List.take_succ, List.getElem?_eq_getElem h, getD_at (List.getElem?_eq_getElem h)]
  unfold somes
  rw [List.filterMap_append]
  cases r[i] <;> rfl
theorem step1_len (k op a : Nat) : (step1 k op a).length ≤ 2 * k + 1 := by
  unfold step1
  split
  · simp
  · split
    · simp
    · split
      · simp; omega
      · simp
theorem steps_len {ar : List Nat} {k : Nat} : ∀ i, (itn (fun op acc => acc ++ step1 k op (ar.getD op 0)) i []).length ≤ i * (2 * k + 1)
  | 0 => by simp [itn]
  | i + 1 => by
    have h1 := steps_len (ar := ar) (k := k) i
    have h2 := step1_len k i (ar.getD i 0)
    show (_ ++ _ : List Nd).length ≤ _
    rw [List.length_append, Nat.succ_mul]
    omega
section
variable {P : Program} {w : World} {K : PySem.W.Frag} {mg : Str → Option Value} {base : Heap}
/-! is_row, relative -/
def NN (r : Row) : Prop := ∀ i, some i ∈ r → 0 ≤ i
def sp_is_row : Sp := fun vs H Q _ => ∃ (v : V) (r : Row), vs = [v] ∧ RD H v (dS r) ∧ 1 ≤ r.length ∧ r.length ≤ 4 ∧ NN r ∧ ∀ H', Ex H H' → Q (.bl true) H'
theorem ok_is_row (T : Tx mg) (D : Def K mg "is_row" s_is_row) (C_is_count : Cal P w K mg base CX0 "is_count" 1 ["thing"] sp_is_count) : Cal P w K mg base CX0 "is_row" 2 ["thing"] sp_is_row := by
  obtain ⟨f, fd, F, hm⟩ := D.ex
  refine ⟨f, fd, F.ok sc_is_row (fun vs H Q E h => ?_) (fun cdv A outer s H vs Q E hr h => ?_), hm, F.kp, F.binds fun _ _ _ _ _ _ us hl => match us, hl with | [_], _ => rfl⟩
  · obtain ⟨v, r, rfl, _⟩ := h
    rfl
  · obtain ⟨v, r, rfl, hR, h1, h4, hn, q⟩ := h
    obtain ⟨p, rfl, hp⟩ := hR.row
    refine ⟨_, (pss_cons (ps_if (PW.pt (pw_or (pt_not (pt_val (pe_callB (kc_isi K) (by rfl) T.isinstance boot_isinstance (pa_cons (pv 0) (pa_cons (pe_bltn (v := .ty "tuple") (by rfl) T.tuple boot_tuple rfl) pa_nil))))) (pw_or1 (pt_not (pt_chain op_le op_le pe_int (pe_callB (kc_len K) (by rfl) T.len boot_len (pa_cons (pv 0) pa_nil)) (pe_cst T.cMOST_FORMS)))))) (pss_one (ps_ret pe_bl)) pss_nil)
  (pss_one (ps_ret (pe_callB (cr_all rfl) (by rfl) T.all boot_all (pa_cons (pe_lc (own := [("price", 1)]) rfl sc_is_row.nd (ki_tup K (pv 0)) (blkOk_by (own := [("price", 1)]) (N := ["thing", "price"]) (sc := defScope s_is_row) (by decide +kernel)) (fun _ _ _ _ _ => (pg_name (i := 1) sc_is_row.nd rfl (by first | exact .inl rfl | exact .inr rfl))) (fun _ _ _ _ _ => pts_nil) (fun _ _ _ _ _ => (pe_or (pe_cmpR op_isN (pv 1) pe_non (nomark _)) (pe_one (pe_cal C_is_count (by first | exact hr | exact hr.mono (by decide)) (by rfl) pass0 (pa_cons (pv 1) pa_nil)))))) pa_nil))))), ?_⟩
    refine ⟨_, rfl, _, _, _, _, _, rfl, .ty _, .base (.tup hp), kit_tt, _, rfl, ?_⟩
    refine itF Bool.false_ne_true ?_
    refine ⟨_, rfl, p, _, rfl, .inr (.of hp), _, _, rfl, rfl, _, rfl, ?_⟩
    refine itT (decide_eq_true (by rw [List.length_map]; omega)) ?_
    refine ⟨_, _, rfl, rfl, _, rfl, ?_⟩
    rw [decide_eq_true (show ((r.map vO).length : Int) ≤ 4 by rw [List.length_map]; omega)]
    refine itF Bool.false_ne_true ?_
    refine ⟨_, rfl, p, rfl, ⟨_, .of hp⟩, fun D2 hD => ?_⟩
    refine lc_it (walk_tup (xs := r.map vO)) (fun i H' => Ex H H' ∧ H' D2 = some (.lst (tru i))) ⟨Ex.new hD, upd_same⟩ (fun i H1 _ hP => SqT.of (hP.1 _ _ hp)) (fun i x _ H1 hi hP hy => ?_) (fun H1 hP => ?_)
    · obtain ⟨rfl, hx⟩ := hy
      obtain ⟨ex, hD1⟩ := hP
      rw [List.length_map] at hi
      rw [vO_at hi] at hx
      cases hx
      have hg : r[i]? = some (r.getD i none) := by simp [hi]
      have fin : ∃ acc, H1 D2 = some (.lst acc) ∧ acc.length < sizeLine ∧ (Ex H (upd H1 D2 (.lst (acc ++ [.bl true]))) ∧ upd H1 D2 (.lst (acc ++ [.bl true])) D2 = some (.lst (tru (i + 1)))) :=
        ⟨_, hD1, by rw [tru_len]; simp [sizeLine]; omega, ex.mut hD, by rw [upd_same, tru_snoc]⟩
      refine ⟨rfl, ?_⟩
      refine ⟨_, rfl, rfl, _, rfl, ?_⟩
      cases e : r.getD i none with
      | none => exact itT rfl fin
      | some j =>
        refine itF (show ¬ (false = true) by decide) ?_
        refine ⟨_, rfl, j, rfl, ?_⟩
        rw [decide_eq_true (hn j (by rw [← e]; exact List.mem_of_getElem? hg))]
        exact fin
    · obtain ⟨ex, hD1⟩ := hP
      refine ⟨D2, _, rfl, .of hD1, ?_⟩
      rw [all_tru]
      exact q _ ex
def sp_relative : Sp := fun vs H Q _ => ∃ (v : V) (r : Row), vs = [v] ∧ RD H v (dS r) ∧ 1 ≤ r.length ∧ r.length ≤ 4 ∧ NN r ∧ ∀ v' H', Ex H H' → RD H' v' (dRel r) → Q v' H'
theorem ok_relative (T : Tx mg) (D : Def K mg "relative" s_relative) (C_is_row : Cal P w K mg base CX0 "is_row" 2 ["thing"] sp_is_row) (C_relative_of : Cal P w K mg base CX0 "relative_of" 2 ["row"] sp_relative_of) : Cal P w K mg base CX0 "relative" 3 ["row"] sp_relative := by
  obtain ⟨f, fd, F, hm⟩ := D.ex
  refine ⟨f, fd, F.ok sc_relative (fun vs H Q E h => ?_) (fun cdv A outer s H vs Q E hr h => ?_), hm, F.kp, F.binds fun _ _ _ _ _ _ us hl => match us, hl with | [_], _ => rfl⟩
  · obtain ⟨v, r, rfl, _⟩ := h
    rfl
  · obtain ⟨v, r, rfl, hR, h1, h4, hn, q⟩ := h
    refine ⟨_, (pss_cons (ps_if (pt_not (pt_val (pe_cal C_is_row (by first | exact hr | exact hr.mono (by decide)) (by rfl) pass0 (pa_cons (pv 0) pa_nil)))) (pss_one ps_never) pss_nil)
  (pss_one (ps_ret (pe_cal C_relative_of (by first | exact hr | exact hr.mono (by decide)) (by rfl) pass0 (pa_cons (pv 0) pa_nil))))), ?_⟩
    refine ⟨_, rfl, v, r, rfl, hR, h1, h4, hn, fun H0 ex0 => ⟨_, rfl, ?_⟩⟩
    refine itF Bool.false_ne_true ?_
    exact ⟨_, rfl, v, r, rfl, hR.ex ex0, by omega, fun v' H1 ex1 h1 => q v' H1 (ex0.trans ex1) h1⟩
/-! spread -/
def sp_spread : Sp := fun vs H Q _ => ∃ (v : V) (r : Row), vs = [v] ∧ RD H v (dS r) ∧ r.length ≤ 100 ∧ ∀ H', Ex H H' → Q (.int (spreadF r)) H'
theorem ok_spread (T : Tx mg) (D : Def K mg "spread" s_spread) : Cal P w K mg base CX0 "spread" 1 ["state"] sp_spread := by
  obtain ⟨f, fd, F, hm⟩ := D.ex
  refine ⟨f, fd, F.ok sc_spread (fun vs H Q E h => ?_) (fun cdv A outer s H vs Q E hr h => ?_), hm, F.kp, F.binds fun _ _ _ _ _ _ us hl => match us, hl with | [_], _ => rfl⟩
  · obtain ⟨v, r, rfl, _⟩ := h
    rfl
  · obtain ⟨v, r, rfl, hR, hz, q⟩ := h
    obtain ⟨p, rfl, hp⟩ := hR.row
    refine ⟨_, (pss_cons (ps_setLc (i := 1) (own := [("price", 2)]) rfl sc_spread.nd rfl rfl (sw_true rfl rfl rfl (by decide +kernel)) (ki_tup K (pv 0)) (blkOk_by (own := [("price", 2)]) (N := ["state", "some", "price"]) (sc := defScope s_spread) (by decide +kernel)) (fun _ _ _ _ _ => (pg_name (i := 2) sc_spread.nd rfl (by first | exact .inl rfl | exact .inr rfl))) (fun _ _ _ _ _ => (pts_one (pt_cmpR op_notN (pv 2) pe_non (nomark _)))) (fun _ _ _ _ _ => (pv 2)))
  (pss_one (ps_ret (pe_ifExp (pt_cmpR (ko_ne K hr.units) (pv 1) (pe_lst pa_nil) (nomark _)) (pe_callB (cr_max rfl) (by rfl) T.max boot_max (pa_cons (pv 1) pa_nil)) pe_int)))), ?_⟩
    refine ⟨_, rfl, p, rfl, ⟨_, .of hp⟩, fun D2 hD => ?_⟩
    refine lc_it (walk_tup (xs := r.map vO)) (fun i H' => Ex H H' ∧ H' D2 = some (.lst ((somes (r.take i)).map V.int))) ⟨Ex.new hD, upd_same⟩ (fun i H1 _ hP => SqT.of (hP.1 _ _ hp)) (fun i x _ H1 hi hP hy => ?_) (fun H1 hP => ?_)
    · obtain ⟨rfl, hx⟩ := hy
      obtain ⟨ex, hD1⟩ := hP
      rw [List.length_map] at hi
      rw [vO_at hi] at hx
      cases hx
      have hg : r[i]? = some (r.getD i none) := by simp [hi]
      have ht := somes_take hi
      refine ⟨rfl, _, rfl, rfl, _, rfl, ?_⟩
      cases e : r.getD i none with
      | none =>
        refine itF (by decide) ⟨ex, ?_⟩
        rw [ht, e]
        simpa using hD1
      | some j =>
        refine itT rfl ⟨_, rfl, _, hD1, ?_, ex.mut hD, ?_⟩
        · rw [List.length_map]
          have := List.length_filterMap_le id (r.take i)
          have := List.length_take_le i r
          simp [sizeLine, somes] at *
          omega
        · rw [upd_same, ht, e]
          simp [vO]
    · obtain ⟨ex, hD1⟩ := hP
      rw [List.length_map, List.take_length] at hD1
      refine ⟨_, rfl, by simp, fun z hz => ?_⟩
      have ex1 := ex.newT (o := .lst []) hz
      have hD2 := Ex.new (o := .lst []) hz _ _ hD1
      refine ⟨.list ((somes r).map .int), .list [], .lst (.of hD2) (rds_i _).dp, .lst (.of upd_same) .nil, ints_shaped _, nil_shaped, _, rfl, ?_⟩
      rw [ints_ne]
      cases e : somes r with
      | nil =>
        refine itF (by decide) ?_
        rw [show spreadF r = 0 by unfold spreadF; rw [e]; rfl] at q
        exact q _ ex1
      | cons i t =>
        refine itT (by rfl) ?_
        refine ⟨_, rfl, D2, i :: t, rfl, .of (by rw [← e]; exact hD2), by simp, fun m h1 h2 => ?_⟩
        rw [show spreadF r = m by unfold spreadF; rw [e]; exact lmx_eq h1 h2] at q
        exact q _ ex1
/-! greatest_price -/
def sp_greatest_price : Sp := fun vs H Q _ => ∃ (v : V) (m : Mach), vs = [v] ∧ RD H v (dM m) ∧ m.Ok ∧ ∀ H', Ex H H' → Q (.int (gpF m)) H'
theorem ok_greatest_price (T : Tx mg) (D : Def K mg "greatest_price" s_greatest_price) : Cal P w K mg base CX0 "greatest_price" 1 ["machine"] sp_greatest_price := by
  obtain ⟨f, fd, F, hm⟩ := D.ex
  refine ⟨f, fd, F.ok sc_greatest_price (fun vs H Q E h => ?_) (fun cdv A outer s H vs Q E hr h => ?_), hm, F.kp, F.binds fun _ _ _ _ _ _ us hl => match us, hl with | [_], _ => rfl⟩
  · obtain ⟨v, m, rfl, _⟩ := h
    rfl
  · obtain ⟨v, m, rfl, hM, ok, q⟩ := h
    obtain ⟨p, pa, pi, pc, ai, ac, M⟩ := hM.mv
    cases M.e
    have la : ai.length = m.ins.length := by rw [M.ri.length, List.length_map]
    have lc : ac.length = m.cv.length := by rw [M.rc.length, List.length_map]
    have iN := ok.iN
    have cN := ok.cN
    refine ⟨_, (pss_one (ps_ret (pe_callB (cr_max rfl) (by rfl) T.max boot_max (pa_cons (pe_op op_cat (pe_op op_cat (pe_lst (pa_cons pe_int pa_nil)) (pe_lc (own := [("one", 1)]) rfl sc_greatest_price.nd (ki_tup K (pe_ix (kx_tup K) (pv 0) pe_int (fun _ _ => rfl))) (blkOk_by (own := [("one", 1)]) (N := ["machine", "one"]) (sc := defScope s_greatest_price) (by decide +kernel)) (fun _ _ _ _ _ => (pg_name (i := 1) sc_greatest_price.nd rfl (by first | exact .inl rfl | exact .inr rfl))) (fun _ _ _ _ _ => pts_nil) (fun _ _ _ _ _ => (pe_ix (kx_tup K) (pv 1) pe_int (fun _ _ => rfl))))) (pe_lc (own := [("one", 1)]) rfl sc_greatest_price.nd (ki_tup K (pe_ix (kx_tup K) (pv 0) pe_int (fun _ _ => rfl))) (blkOk_by (own := [("one", 1)]) (N := ["machine", "one"]) (sc := defScope s_greatest_price) (by decide +kernel)) (fun _ _ _ _ _ => (pg_name (i := 1) sc_greatest_price.nd rfl (by first | exact .inl rfl | exact .inr rfl))) (fun _ _ _ _ _ => pts_nil) (fun _ _ _ _ _ => (pe_ix (kx_tup K) (pv 1) pe_int (fun _ _ => rfl))))) pa_nil)))), ?_⟩
    refine ⟨by simp [sizeLine], fun z hz => ?_⟩
    have ex0 : Ex H (upd H z (.lst [.int 0])) := Ex.new hz
    have M0 := M.ex ex0.tu
    refine ⟨_, rfl, p, _, _, _, rfl, rfl, .of M0.at0, rfl, pi, rfl, ⟨ai, .of M0.at2⟩, fun D2 hD => ?_⟩
    refine lc_it (walk_tup (xs := ai)) (fun i H' => Ex (upd H z (.lst [.int 0])) H' ∧ H' D2 = some (.lst (((m.ins.take i).map (·.price)).map V.int))) ⟨Ex.new hD, upd_same⟩ (fun i H1 _ hP => SqT.of (hP.1 _ _ M0.at2)) (fun i x _ H1 hi hP hy => ?_) (fun H1 hP => ?_)
    · obtain ⟨rfl, hx⟩ := hy
      obtain ⟨ex, hD1⟩ := hP
      obtain ⟨i1, e1, r1⟩ := rds_at (M0.ri.ex ex) hx
      obtain ⟨t1, t2, rfl, ht1, ht2⟩ := r1.ins
      refine ⟨rfl, _, rfl, t1, _, _, _, rfl, rfl, .of ht1, rfl, _, hD1, by rw [List.length_map, List.length_map, List.length_take]; simp [sizeLine]; omega, ex.mut hD, ?_⟩
      rw [upd_same, List.take_succ, e1]
      simp
    · obtain ⟨ex, hD1⟩ := hP
      rw [List.take_of_length_le (by omega)] at hD1
      have hz1 := ex _ _ upd_same
      refine ⟨z, D2, _, _, rfl, rfl, hz1, hD1, by simp [sizeLine]; omega, fun z2 hz2 => ?_⟩
      have ex1 := (ex0.trans ex).newT (o := .lst ([.int 0] ++ (m.ins.map (·.price)).map V.int)) hz2
      have M1 := M.ex ex1.tu
      refine ⟨_, rfl, p, _, _, _, rfl, rfl, .of M1.at0, rfl, pc, rfl, ⟨ac, .of M1.at3⟩, fun D3 hD3 => ?_⟩
      refine lc_it (walk_tup (xs := ac)) (fun i H' => Ex (upd H1 z2 (.lst ([.int 0] ++ (m.ins.map (·.price)).map V.int))) H' ∧ H' D3 = some (.lst (((m.cv.take i).map (·.price)).map V.int))) ⟨Ex.new hD3, upd_same⟩ (fun i H2 _ hP => SqT.of (hP.1 _ _ M1.at3)) (fun i x _ H2 hi hP hy => ?_) (fun H2 hP => ?_)
      · obtain ⟨rfl, hx⟩ := hy
        obtain ⟨ex2, hD4⟩ := hP
        obtain ⟨i1, e1, r1⟩ := rds_at (M1.rc.ex ex2) hx
        obtain ⟨t1, rfl, ht1⟩ := r1.cv
        refine ⟨rfl, _, rfl, t1, _, _, _, rfl, rfl, .of ht1, rfl, _, hD4, by rw [List.length_map, List.length_map, List.length_take]; simp [sizeLine]; omega, ex2.mut hD3, ?_⟩
        rw [upd_same, List.take_succ, e1]
        simp
      · obtain ⟨ex2, hD4⟩ := hP
        rw [List.take_of_length_le (by omega)] at hD4
        refine ⟨z2, D3, _, _, rfl, rfl, ex2 _ _ upd_same, hD4, by simp [sizeLine]; omega, fun z3 hz3 => ?_⟩
        refine ⟨z3, [0] ++ m.ins.map (·.price) ++ m.cv.map (·.price), rfl, .of (by rw [upd_same]; simp), by simp, fun g h1 h2 => ?_⟩
        have e : gpF m = g := lmx_eq h1 h2
        rw [← e]
        exact q _ ((ex1.trans ex2).newT hz3)
/-! steps_from -/
def sp_steps_from : Sp := fun vs H Q _ => ∃ (v : V) (m : Mach) (k : Nat), vs = [v, .int ((k : Int) - 1)] ∧ RD H v (dM m) ∧ m.Ok ∧ k ≤ 100000 ∧
  ∀ (l : Addr) (xs : List V) (H' : Hp), H l = none → Ex H H' → H' l = some (.lst xs) → RDs H' xs ((stepsF m.ar k).map dStp) → Q (.ref l) H'
theorem ok_steps_from (T : Tx mg) (D : Def K mg "steps_from" s_steps_from) : Cal P w K mg base CX0 "steps_from" 1 ["machine", "at"] sp_steps_from := by
  obtain ⟨f, fd, F, hm⟩ := D.ex
  refine ⟨f, fd, F.ok sc_steps_from (fun vs H Q E h => ?_) (fun cdv A outer s H vs Q E hr h => ?_), hm, F.kp, F.binds fun _ _ _ _ _ _ us hl => match us, hl with | [_, _], _ => rfl⟩
  · obtain ⟨v, m, k, rfl, _⟩ := h
    rfl
  · obtain ⟨v, m, k, rfl, hM, ok, hk, q⟩ := h
    obtain ⟨p, pa, pi, pc, ai, ac, M⟩ := hM.mv
    cases M.e
    refine ⟨_, (pss_cons (ps_set (i := 2) sc_steps_from.nd rfl (by first | exact .inl rfl | exact .inr rfl) (pe_lst pa_nil))
  (pss_cons (ps_for PassesOwn.never rfl (pi_enumT (by rfl) T.enumerate (pa_cons (pe_ix (kx_tup K) (pv 0) pe_int (fun _ _ => rfl)) pa_nil)) (kg_tup K (n := 2) rfl (pgs_cons (pg_name (i := 3) sc_steps_from.nd rfl (by first | exact .inl rfl | exact .inr rfl)) (pgs_cons (pg_name (i := 4) sc_steps_from.nd rfl (by first | exact .inl rfl | exact .inr rfl)) pgs_nil)))
  (pss_cons (ps_if (PW.pt (pw_and (pt_cmpR op_eq (pv 4) pe_int (nomark _)) (pw_and1 (pt_cmpR op_lt (pv 1) pe_int (nomark _))))) (pss_one (ps_expr (pe_bm PySem.F.plainAttrs_list PySem.F.slot_list_append PySem.F.type_list_append mt_append (pv 2) (pa_cons (pe_tup (pa_cons (pv 3) (pa_cons (pe_tup pa_nil) pa_nil))) pa_nil)))) pss_nil)
  (pss_cons (ps_if (PW.pt (pw_and (pt_cmpR op_eq (pv 4) pe_int (nomark _)) (pw_and1 (pt_cmpR op_ge (pv 1) pe_int (nomark _))))) (pss_one (ps_expr (pe_bm PySem.F.plainAttrs_list PySem.F.slot_list_append PySem.F.type_list_append mt_append (pv 2) (pa_cons (pe_tup (pa_cons (pv 3) (pa_cons (pe_tup (pa_cons (pv 1) pa_nil)) pa_nil))) pa_nil)))) pss_nil)
  (pss_one (ps_if (PW.pt (pw_and (pt_cmpR op_eq (pv 4) pe_int (nomark _)) (pw_and1 (pt_cmpR op_ge (pv 1) pe_int (nomark _))))) (pss_cons (ps_expr (pe_bm PySem.F.plainAttrs_list PySem.F.slot_list_extend PySem.F.type_list_extend mt_extend (pv 2) (pa_cons (pe_lc (own := [("other", 5)]) rfl sc_steps_from.nd (pi_range1 (by rfl) T.range (pa_cons (pe_op op_add (pv 1) pe_int) pa_nil)) (blkOk_by (own := [("other", 5)]) (N := ["machine", "at", "found", "operator", "arity", "other"]) (sc := defScope s_steps_from) (by decide +kernel)) (fun _ _ _ _ _ => (pg_name (i := 5) sc_steps_from.nd rfl (by first | exact .inl rfl | exact .inr rfl))) (fun _ _ _ _ _ => pts_nil) (fun _ _ _ _ _ => (pe_tup (pa_cons (pv 3) (pa_cons (pe_tup (pa_cons (pv 1) (pa_cons (pv 5) pa_nil))) pa_nil))))) pa_nil)))
  (pss_one (ps_expr (pe_bm PySem.F.plainAttrs_list PySem.F.slot_list_extend PySem.F.type_list_extend mt_extend (pv 2) (pa_cons (pe_lc (own := [("other", 5)]) rfl sc_steps_from.nd (pi_range1 (by rfl) T.range (pa_cons (pv 1) pa_nil)) (blkOk_by (own := [("other", 5)]) (N := ["machine", "at", "found", "operator", "arity", "other"]) (sc := defScope s_steps_from) (by decide +kernel)) (fun _ _ _ _ _ => (pg_name (i := 5) sc_steps_from.nd rfl (by first | exact .inl rfl | exact .inr rfl))) (fun _ _ _ _ _ => pts_nil) (fun _ _ _ _ _ => (pe_tup (pa_cons (pv 3) (pa_cons (pe_tup (pa_cons (pv 5) (pa_cons (pv 1) pa_nil))) pa_nil))))) pa_nil))))) pss_nil)))))
  (pss_one (ps_ret (pv 2))))), ?_⟩
    refine ⟨by simp, fun l hl => ?_⟩
    have ex0 : Ex H (upd H l (.lst [])) := Ex.new hl
    refine ⟨_, rfl, p, _, _, _, rfl, rfl, .of (ex0 _ _ M.at0), rfl, pa, _, rfl, .of (ex0 _ _ M.at1), ?_⟩
    refine for_it walk_n (fun i σ H' => (∃ x3 x4 x5, σ = [some (.ref p), some (.int ((k : Int) - 1)), some (.ref l), x3, x4, x5]) ∧ Ex H H' ∧ ∃ xs, H' l = some (.lst xs) ∧ RDs H' xs ((itn (fun op acc => acc ++ step1 k op (m.ar.getD op 0)) i []).map dStp)) ⟨⟨_, _, _, rfl⟩, ex0, [], upd_same, .nil⟩ (fun i σ H2 _ hP => .of (hP.2.1 _ _ M.at1)) (fun i x σ H1 H2 hi hP hy => ?_) (fun σ H2 hP => ?_)
    · obtain ⟨T1, y1, y2, rfl, nT, rfl, e1, e2⟩ := hy
      cases e1
      rw [List.length_map] at hi
      replace e2 : (m.ar.map vN)[i]? = some y2 := e2
      rw [List.getElem?_map, List.getElem?_eq_getElem hi] at e2
      cases e2
      obtain ⟨⟨x3, x4, x5, rfl⟩, ex, xs, hl1, hxs⟩ := hP
      have exT := Ex.new (o := .tup [.int (i : Nat), vN m.ar[i]]) nT
      have ex1 := ex.trans exT
      have hl2 := exT _ _ hl1
      have hx2 := hxs.ex exT
      generalize hH2 : upd H1 T1 (.tup [.int (i : Nat), vN m.ar[i]]) = H2 at exT ex1 hl2 hx2
      refine ⟨T1, _, rfl, SqT.of (by rw [← hH2]; exact upd_same), rfl, _, _, rfl, _, _, rfl, rfl, ?_⟩
      have ha2 := ok.a2 _ (List.getElem_mem hi)
      have ha6 := ok.a6
      have gd : m.ar.getD i 0 = m.ar[i] := getD_at (List.getElem?_eq_getElem hi)
      have es : itn (fun op acc => acc ++ step1 k op (m.ar.getD op 0)) (i + 1) [] = itn (fun op acc => acc ++ step1 k op (m.ar.getD op 0)) i [] ++ step1 k i m.ar[i] := by rw [← gd]; rfl
      have hal := steps_len (ar := m.ar) (k := k) i
      generalize hacc : itn (fun op acc => acc ++ step1 k op (m.ar.getD op 0)) i [] = acc at hxs hx2 es hal
      have hxl : xs.length + (2 * k + 1) < sizeLine := by
        rw [hxs.length, List.length_map]
        have : i * (2 * k + 1) ≤ 6 * (2 * k + 1) := Nat.mul_le_mul_right _ (by omega)
        simp [sizeLine]
        omega
      have fin : ∀ {H3 : Hp} {ys : List V} {y5 : Option V}, Ex H H3 → H3 l = some (.lst (xs ++ ys)) → RDs H3 xs (acc.map dStp) → RDs H3 ys ((step1 k i m.ar[i]).map dStp) → (∃ x3 x4 x5, [some (.ref p), some (.int ((k : Int) - 1)), some (.ref l), some (.int (i : Nat)), some (vN m.ar[i]), y5] = [some (.ref p), some (.int ((k : Int) - 1)), some (.ref l), x3, x4, x5]) ∧ Ex H H3 ∧ ∃ xs, H3 l = some (.lst xs) ∧ RDs H3 xs ((itn (fun op acc => acc ++ step1 k op (m.ar.getD op 0)) (i + 1) []).map dStp) := fun {H3 ys y5} h1 h2 h3 h4 =>
        ⟨⟨_, _, _, rfl⟩, h1, _, h2, by rw [es, List.map_append]; exact h3.app h4⟩
      generalize m.ar[i] = a at *
      have h3 : a = 0 ∨ a = 1 ∨ a = 2 := by omega
      rcases h3 with rfl | rfl | rfl
      · refine ⟨_, rfl, rfl, _, rfl, ?_⟩
        refine itT rfl ?_
        refine ⟨_, rfl, _, _, rfl, rfl, _, rfl, ?_⟩
        by_cases hk0 : k = 0
        · subst hk0
          refine itT rfl ?_
          refine ⟨_, rfl, .inl ⟨rfl, xs, .of hl2⟩, ?_⟩
          refine ⟨_, rfl, by simp, fun z hz => ⟨by simp [sizeLine], fun z2 hz2 => ?_⟩⟩
          have exz := (Ex.new (o := .tup []) hz).newT (o := .tup [vN i, .ref z]) hz2
          have hl3 := exz _ _ hl2
          have tu := Tu.lst (o := .lst (xs ++ [.ref z2])) hl3
          refine ⟨l, xs, _, rfl, rfl, hl3, by omega, ?_⟩
          refine ⟨_, rfl, rfl, _, rfl, itF Bool.false_ne_true ?_⟩
          refine itF Bool.false_ne_true ?_
          refine ⟨_, rfl, rfl, _, rfl, itF Bool.false_ne_true ?_⟩
          refine itF Bool.false_ne_true ?_
          refine fin ((ex1.trans exz).mut hl) upd_same ((hx2.ex exz).tu tu) (.cons ?_ .nil)
          exact (rd_stp (ns := []) (upd_same) (Ex.new hz2 _ _ upd_same)).tu tu
        · refine itF (fun z => by have := of_decide_eq_true z; omega) ?_
          refine ⟨_, rfl, rfl, _, rfl, itF Bool.false_ne_true ?_⟩
          refine itF Bool.false_ne_true ?_
          refine ⟨_, rfl, rfl, _, rfl, itF Bool.false_ne_true ?_⟩
          refine itF Bool.false_ne_true ?_
          refine fin (ys := []) ex1 (by rw [List.append_nil]; exact hl2) hx2 ?_
          rw [step1, if_neg (by omega), if_neg (by omega), if_neg (by omega)]
          exact .nil
      · refine ⟨_, rfl, rfl, _, rfl, itF Bool.false_ne_true ?_⟩
        refine itF Bool.false_ne_true ?_
        refine ⟨_, rfl, rfl, _, rfl, itT rfl ?_⟩
        refine ⟨_, rfl, _, _, rfl, rfl, _, rfl, ?_⟩
        by_cases hk0 : k = 0
        · subst hk0
          refine itF Bool.false_ne_true ?_
          refine ⟨_, rfl, rfl, _, rfl, itF Bool.false_ne_true ?_⟩
          refine itF Bool.false_ne_true ?_
          exact fin (ys := []) ex1 (by rw [List.append_nil]; exact hl2) hx2 .nil
        · refine itT (decide_eq_true (by omega)) ?_
          refine ⟨_, rfl, .inl ⟨rfl, xs, .of hl2⟩, ?_⟩
          refine ⟨_, rfl, _, rfl, by simp [sizeLine], fun z hz => ⟨by simp [sizeLine], fun z2 hz2 => ?_⟩⟩
          have exz := (Ex.new (o := .tup [.int ((k : Int) - 1)]) hz).newT (o := .tup [vN i, .ref z]) hz2
          have hl3 := exz _ _ hl2
          have tu := Tu.lst (o := .lst (xs ++ [.ref z2])) hl3
          refine ⟨l, xs, _, rfl, rfl, hl3, by omega, ?_⟩
          refine ⟨_, rfl, rfl, _, rfl, itF Bool.false_ne_true ?_⟩
          refine itF Bool.false_ne_true ?_
          refine fin ((ex1.trans exz).mut hl) upd_same ((hx2.ex exz).tu tu) ?_
          rw [step1, if_neg (by omega), if_pos (by omega)]
          have ek : (k : Int) - 1 = ((k - 1 : Nat) : Int) := by omega
          refine .cons ((rd_stp (ns := [k - 1]) (upd_same) (Ex.new hz2 _ _ ?_)).tu tu) .nil
          rw [upd_same, ek]
          rfl
      · refine ⟨_, rfl, rfl, _, rfl, itF Bool.false_ne_true ?_⟩
        refine itF Bool.false_ne_true ?_
        refine ⟨_, rfl, rfl, _, rfl, itF Bool.false_ne_true ?_⟩
        refine itF Bool.false_ne_true ?_
        refine ⟨_, rfl, rfl, _, rfl, itT rfl ?_⟩
        refine ⟨_, rfl, _, _, rfl, rfl, _, rfl, ?_⟩
        by_cases hk0 : k = 0
        · subst hk0
          refine itF Bool.false_ne_true ?_
          exact fin (ys := []) ex1 (by rw [List.append_nil]; exact hl2) hx2 .nil
        · refine itT (decide_eq_true (by omega)) ?_
          have ek : (k : Int) - 1 = ((k - 1 : Nat) : Int) := by omega
          have st : step1 k i 2 = (List.range k).map (fun o => ((i, [k - 1, o]) : Nd)) ++ (List.range (k - 1)).map (fun o => (i, [o, k - 1])) := by rw [step1, if_neg (by omega), if_neg (by omega), if_pos (by omega)]
          -- the first range
          refine ⟨_, rfl, .inl ⟨rfl, xs, .of hl2⟩, ?_⟩
          refine ⟨_, rfl, _, _, rfl, rfl, _, rfl, by omega, by omega, fun D2 hD => ?_⟩
          refine lc_it (walk_rn (n := k) (by omega)) (fun j H' => Ex H2 H' ∧ ∃ ys, H' D2 = some (.lst ys) ∧ RDs H' ys (((List.range j).map (fun o => ((i, [k - 1, o]) : Nd))).map dStp)) ⟨Ex.new hD, [], upd_same, .nil⟩ (fun j H3 _ hP => trivial) (fun j x _ H3 hj hP hy => ?_) (fun H3 hP => ?_)
          · obtain ⟨rfl, rfl⟩ := hy
            obtain ⟨ex3, ys, hys, rys⟩ := hP
            refine ⟨rfl, ?_⟩
            refine ⟨_, rfl, _, rfl, _, rfl, by simp [sizeLine], fun z hz => ⟨by simp [sizeLine], fun z2 hz2 => ?_⟩⟩
            have exz := (Ex.new (o := .tup [.int ((k : Int) - 1), .int (j : Nat)]) hz).newT (o := .tup [vN i, .ref z]) hz2
            have hys2 := exz _ _ hys
            have tu := Tu.lst (o := .lst (ys ++ [.ref z2])) hys2
            refine ⟨ys, hys2, by rw [rys.length, List.length_map, List.length_map, List.length_range]; simp [sizeLine]; omega, (ex3.trans exz).mut hD, _, upd_same, ?_⟩
            rw [List.range_succ, List.map_append, List.map_append]
            refine ((rys.ex exz).tu tu).app (.cons ((rd_stp (ns := [k - 1, j]) (upd_same) (Ex.new hz2 _ _ ?_)).tu tu) .nil)
            rw [upd_same, ek]
            rfl
          · obtain ⟨ex3, ys, hys, rys⟩ := hP
            have hl3 := ex3 _ _ hl2
            have tu := Tu.lst (o := .lst (xs ++ ys)) hl3
            have ylen : ys.length = k := by rw [rys.length, List.length_map, List.length_map, List.length_range]
            refine ⟨l, D2, xs, ys, rfl, rfl, hl3, hys, by omega, ?_⟩
            have rx3 := (hx2.ex ex3).tu tu
            have ry3 := rys.tu tu
            have ex4 := (ex1.trans ex3).mut (o := .lst (xs ++ ys)) hl
            have hl4 : upd H3 l (.lst (xs ++ ys)) l = some (.lst (xs ++ ys)) := upd_same
            generalize upd H3 l (.lst (xs ++ ys)) = H4 at rx3 ry3 ex4 hl4
            -- the second range
            refine ⟨_, rfl, .inl ⟨rfl, _, .of hl4⟩, ?_⟩
            refine ⟨_, rfl, _, rfl, by omega, by omega, fun D3 hD3 => ?_⟩
            refine lc_it (walk_rn (n := k - 1) (by omega)) (fun j H' => Ex H4 H' ∧ ∃ ys, H' D3 = some (.lst ys) ∧ RDs H' ys (((List.range j).map (fun o => ((i, [o, k - 1]) : Nd))).map dStp)) ⟨Ex.new hD3, [], upd_same, .nil⟩ (fun j H5 _ hP => trivial) (fun j x _ H5 hj hP hy => ?_) (fun H5 hP => ?_)
            · obtain ⟨rfl, rfl⟩ := hy
              obtain ⟨ex5, ys, hys, rys⟩ := hP
              refine ⟨rfl, ?_⟩
              refine ⟨_, rfl, _, rfl, _, rfl, by simp [sizeLine], fun z hz => ⟨by simp [sizeLine], fun z2 hz2 => ?_⟩⟩
              have exz := (Ex.new (o := .tup [.int (j : Nat), .int ((k : Int) - 1)]) hz).newT (o := .tup [vN i, .ref z]) hz2
              have hys2 := exz _ _ hys
              have tu := Tu.lst (o := .lst (ys ++ [.ref z2])) hys2
              refine ⟨ys, hys2, by rw [rys.length, List.length_map, List.length_map, List.length_range]; simp [sizeLine]; omega, (ex5.trans exz).mut hD3, _, upd_same, ?_⟩
              rw [List.range_succ, List.map_append, List.map_append]
              refine ((rys.ex exz).tu tu).app (.cons ((rd_stp (ns := [j, k - 1]) (upd_same) (Ex.new hz2 _ _ ?_)).tu tu) .nil)
              rw [upd_same, ek]
              rfl
            · obtain ⟨ex5, zs, hzs, rzs⟩ := hP
              have hl5 := ex5 _ _ hl4
              have tu := Tu.lst (o := .lst (xs ++ ys ++ zs)) hl5
              have zlen : zs.length = k - 1 := by rw [rzs.length, List.length_map, List.length_map, List.length_range]
              refine ⟨l, D3, _, zs, rfl, rfl, hl5, hzs, by rw [List.length_append]; omega, ?_⟩
              refine fin (ys := ys ++ zs) ((ex4.trans ex5).mut hl) (by rw [upd_same, List.append_assoc]) ((rx3.ex ex5).tu tu) ?_
              rw [st, List.map_append]
              exact ((ry3.ex ex5).tu tu).app (rzs.tu tu)
    · obtain ⟨⟨x3, x4, x5, rfl⟩, ex, xs, hl1, hxs⟩ := hP
      rw [List.length_map] at hxs
      exact ⟨_, rfl, q l xs H2 hl ex hl1 hxs⟩
end
end Cp
end

section
set_option Elab.async false
set_option linter.all false
set_option maxRecDepth 100000
set_option maxHeartbeats 4000000
namespace Cp
open PySem PySem.Spec PyProof.Rows L2
theorem pair_perm {α β : Type} {F : α → β → Prop} {xs ys : List α} (h : ys.Perm xs) : ∀ {ss : List β}, Paired F xs ss → ∃ ts, ts.Perm ss ∧ Paired F ys ts := by
  induction h with
  | nil => intro ss r; exact ⟨ss, .refl _, r⟩
  | cons x _ ih =>
    intro ss r
    cases r with
    | cons f r =>
      obtain ⟨ts, h1, h2⟩ := ih r
      exact ⟨_ :: ts, h1.cons _, .cons f h2⟩
  | swap x y l =>
    intro ss r
    cases r with
    | cons f r =>
      cases r with
      | cons g r => exact ⟨_, .swap _ _ _, .cons g (.cons f r)⟩
  | trans _ _ ih1 ih2 =>
    intro ss r
    obtain ⟨ts, h1, h2⟩ := ih2 r
    obtain ⟨us, g1, g2⟩ := ih1 h2
    exact ⟨us, g1.trans h1, g2⟩
theorem pair_snoc' {α β : Type} {F : α → β → Prop} : ∀ {l : List α} {m : List β} {p q}, Paired F l m → F p q → Paired F (l ++ [p]) (m ++ [q])
  | _, _, _, _, .nil, h => .cons h .nil
  | _, _, _, _, .cons f r, h => .cons f (pair_snoc' r h)
theorem pair_at {α β : Type} {F : α → β → Prop} : ∀ {l : List α} {m : List β} {i : Nat} {x : α}, Paired F l m → l[i]? = some x → ∃ y, m[i]? = some y ∧ F x y
  | _, _, _, _, .nil, e => by simp at e
  | _, _, 0, _, .cons f _, e => by simp at e; subst e; exact ⟨_, rfl, f⟩
  | _, _, i + 1, _, .cons _ r, e => by
    obtain ⟨y, e1, h⟩ := pair_at r (i := i) (by simpa using e)
    exact ⟨y, by simpa using e1, h⟩
theorem pair_mem {α β : Type} {F : α → β → Prop} : ∀ {l : List α} {m : List β} {x : α}, Paired F l m → x ∈ l → ∃ y, y ∈ m ∧ F x y
  | _, _, _, .nil, h => by simp at h
  | _, _, _, .cons f r, h => by
    rcases List.mem_cons.mp h with rfl | h
    · exact ⟨_, List.mem_cons_self .., f⟩
    · obtain ⟨y, h1, h2⟩ := pair_mem r h
      exact ⟨y, List.mem_cons_of_mem _ h1, h2⟩
/-- an item whose key is not the list D -/
def ItD (D : Addr) (H : Hp) (x : V) (s : Row) : Prop := ∃ t l xs v, x = .ref t ∧ H t = some (.tup [.ref l, v]) ∧ H l = some (.lst xs) ∧ RDs H xs (s.map kd) ∧ RD H v (dS s) ∧ l ≠ D
theorem ItD.item {D : Addr} {H : Hp} {x : V} {s : Row} (h : ItD D H x s) : ItemV H x s := by
  obtain ⟨t, l, xs, v, h1, h2, h3, h4, h5, _⟩ := h
  exact ⟨t, l, xs, v, h1, h2, h3, h4, h5⟩
theorem ItD.ex {D : Addr} {H H' : Hp} {x : V} {s : Row} (h : ItD D H x s) (e : Ex H H') : ItD D H' x s := by
  obtain ⟨t, l, xs, v, h1, h2, h3, h4, h5, h6⟩ := h
  exact ⟨t, l, xs, v, h1, e _ _ h2, e _ _ h3, h4.ex e, h5.ex e, h6⟩
theorem ItD.put {D : Addr} {H : Hp} {x : V} {s : Row} {ys : List V} {o : HO} (h : ItD D H x s) (e : H D = some (.lst ys)) : ItD D (upd H D o) x s := by
  obtain ⟨t, l, xs, v, h1, h2, h3, h4, h5, h6⟩ := h
  have tu := Tu.lst (o := o) e
  exact ⟨t, l, xs, v, h1, tu _ _ h2, by rw [upd_ne h6]; exact h3, h4.tu tu, h5.tu tu, h6⟩
section
variable {P : Program} {w : World} {K : PySem.W.Frag} {mg : Str → Option Value} {base : Heap}
/-! key_of -/
def sp_key_of : Sp := fun vs H Q _ => ∃ (v : V) (r : Row), vs = [v] ∧ RD H v (dS r) ∧ r.length ≤ 100 ∧ ∀ (l : Addr) (xs : List V) (H' : Hp), H l = none → Ex H H' → H' l = some (.lst xs) → RDs H' xs (r.map kd) → Q (.ref l) H'
theorem ok_key_of (T : Tx mg) (D : Def K mg "key_of" s_key_of) : Cal P w K mg base CX0 "key_of" 1 ["state"] sp_key_of := by
  obtain ⟨f, fd, F, hm⟩ := D.ex
  refine ⟨f, fd, F.ok sc_key_of (fun vs H Q E h => ?_) (fun cdv A outer s H vs Q E hr h => ?_), hm, F.kp, F.binds fun _ _ _ _ _ _ us hl => match us, hl with | [_], _ => rfl⟩
  · obtain ⟨v, r, rfl, _⟩ := h
    rfl
  · obtain ⟨v, r, rfl, hR, hz, q⟩ := h
    obtain ⟨p, rfl, hp⟩ := hR.row
    refine ⟨_, (pss_one (ps_ret (pe_lc (own := [("price", 1)]) rfl sc_key_of.nd (ki_tup K (pv 0)) (blkOk_by (own := [("price", 1)]) (N := ["state", "price"]) (sc := defScope s_key_of) (by decide +kernel)) (fun _ _ _ _ _ => (pg_name (i := 1) sc_key_of.nd rfl (by first | exact .inl rfl | exact .inr rfl))) (fun _ _ _ _ _ => pts_nil) (fun _ _ _ _ _ => (pe_ifExp (pt_cmpR op_isN (pv 1) pe_non (nomark _)) (pe_tup (pa_cons pe_int (pa_cons pe_int pa_nil))) (pe_tup (pa_cons pe_int (pa_cons (pv 1) pa_nil)))))))), ?_⟩
    refine ⟨_, rfl, p, rfl, ⟨_, .of hp⟩, fun D2 hD => ?_⟩
    refine lc_it (walk_tup (xs := r.map vO)) (fun i H' => Ex H H' ∧ ∃ xs, H' D2 = some (.lst xs) ∧ RDs H' xs ((r.take i).map kd)) ⟨Ex.new hD, [], upd_same, .nil⟩ (fun i H1 _ hP => SqT.of (hP.1 _ _ hp)) (fun i x _ H1 hi hP hy => ?_) (fun H1 hP => ?_)
    · obtain ⟨rfl, hx⟩ := hy
      obtain ⟨ex, xs, hD1, rxs⟩ := hP
      rw [List.length_map] at hi
      rw [vO_at hi] at hx
      cases hx
      have hg : r[i]? = some (r.getD i none) := by simp [hi]
      have hlen : xs.length < sizeLine := by
        rw [rxs.length, List.length_map, List.length_take]
        simp [sizeLine]
        omega
      refine ⟨rfl, _, rfl, rfl, _, rfl, ?_⟩
      cases e : r.getD i none with
      | none =>
        refine itT rfl ⟨by simp [sizeLine], fun z hz => ?_⟩
        have exz := Ex.new (o := .tup [.int 1, .int 0]) hz
        have hD2 := exz _ _ hD1
        have tu := Tu.lst (o := .lst (xs ++ [.ref z])) hD2
        refine ⟨xs, hD2, hlen, (ex.trans exz).mut hD, _, upd_same, ?_⟩
        rw [List.take_succ, hg, e, List.map_append]
        exact ((rxs.ex exz).tu tu).app (.cons (.tup (tu _ _ upd_same) (.cons (.int 1) (.cons (.int 0) .nil))) .nil)
      | some j =>
        refine itF (show ¬ (false = true) by decide) ⟨_, rfl, by simp [sizeLine], fun z hz => ?_⟩
        have exz := Ex.new (o := .tup [.int 0, .int j]) hz
        have hD2 := exz _ _ hD1
        have tu := Tu.lst (o := .lst (xs ++ [.ref z])) hD2
        refine ⟨xs, hD2, hlen, (ex.trans exz).mut hD, _, upd_same, ?_⟩
        rw [List.take_succ, hg, e, List.map_append]
        exact ((rxs.ex exz).tu tu).app (.cons (.tup (tu _ _ upd_same) (.cons (.int 0) (.cons (.int j) .nil))) .nil)
    · obtain ⟨ex, xs, hD1, rxs⟩ := hP
      rw [List.length_map, List.take_length] at rxs
      exact q D2 xs H1 hD ex hD1 rxs
/-! ordered -/
def sp_ordered (K : PySem.W.Frag) : Sp := fun vs H Q _ => ∃ (a : Addr) (xs : List V) (ss : List Row), vs = [.ref a] ∧ SqL K H a xs ∧ RDs H xs (ss.map dS) ∧ (∀ s ∈ ss, s.length ≤ 100) ∧ ss.length ≤ 10000 ∧
  ∀ (ts : List Row) (t : Addr) (ys : List V) (H' : Hp), ts.Perm ss → Ex H H' → H' t = some (.tup ys) → RDs H' ys (ts.map dS) → Q (.ref t) H'
theorem ok_ordered (T : Tx mg) (D : Def K mg "ordered" s_ordered) (C_key_of : Cal P w K mg base CX0 "key_of" 1 ["state"] sp_key_of) : Cal P w K mg base CX0 "ordered" 2 ["some"] (sp_ordered K) := by
  obtain ⟨f, fd, F, hm⟩ := D.ex
  refine ⟨f, fd, F.ok sc_ordered (fun vs H Q E h => ?_) (fun cdv A outer s H vs Q E hr h => ?_), hm, F.kp, F.binds fun _ _ _ _ _ _ us hl => match us, hl with | [_], _ => rfl⟩
  · obtain ⟨a, xs, ss, rfl, _⟩ := h
    rfl
  · obtain ⟨a, xs, ss, rfl, hS, hR, h100, hz, q⟩ := h
    have lx : xs.length = ss.length := by rw [hR.length, List.length_map]
    refine ⟨_, (pss_one (ps_ret (pe_callTy (kc_tup K) (by rfl) T.tuple boot_tuple (pa_cons (pe_lc (own := [("key", 1), ("state", 2)]) rfl sc_ordered.nd (ki_list K (pe_callB (cr_sortedG (hu65 hr)) (by rfl) T.sorted boot_sorted (pa_cons (pe_lc (own := [("state", 2)]) rfl sc_ordered.nd (ki_list K (pv 0)) (blkOk_by (own := [("state", 2)]) (N := ["some", "key", "state"]) (sc := defScope s_ordered) (by decide +kernel)) (fun _ _ _ _ _ => (pg_name (i := 2) sc_ordered.nd rfl (by first | exact .inl rfl | exact .inr rfl))) (fun _ _ _ _ _ => pts_nil) (fun _ _ _ _ _ => (pe_tup (pa_cons (pe_cal C_key_of (by first | exact hr | exact hr.mono (by decide)) (by rfl) pass0 (pa_cons (pv 2) pa_nil)) (pa_cons (pv 2) pa_nil))))) pa_nil))) (blkOk_by (own := [("key", 1), ("state", 2)]) (N := ["some", "key", "state"]) (sc := defScope s_ordered) (by decide +kernel)) (fun _ _ _ _ _ => (kg_tup K (n := 2) rfl (pgs_cons (pg_name (i := 1) sc_ordered.nd rfl (by first | exact .inl rfl | exact .inr rfl)) (pgs_cons (pg_name (i := 2) sc_ordered.nd rfl (by first | exact .inl rfl | exact .inr rfl)) pgs_nil)))) (fun _ _ _ _ _ => pts_nil) (fun _ _ _ _ _ => (pv 2))) pa_nil)))), ?_⟩
    refine ⟨_, rfl, a, rfl, ⟨_, hS⟩, fun D2 hD => ?_⟩
    refine lc_it (walk_list (xs := xs)) (fun i H' => Ex H H' ∧ ∃ its, H' D2 = some (.lst its) ∧ Paired (ItD D2 H') its (ss.take i)) ⟨Ex.new hD, [], upd_same, .nil⟩ (fun i H1 _ hP => SqL.ex hS hP.1) (fun i x _ H1 hi hP hy => ?_) (fun H1 hP => ?_)
    · obtain ⟨rfl, hx⟩ := hy
      obtain ⟨ex, its, hD1, rits⟩ := hP
      obtain ⟨s1, hs1, rs1⟩ := rds_at (hR.ex ex) hx
      have hi2 : its.length = i := by rw [rits.length, List.length_take]; omega
      refine ⟨rfl, ?_⟩
      refine ⟨_, rfl, x, s1, rfl, rs1, h100 s1 (List.mem_of_getElem? hs1), fun l ks H3 hl0 ex3 hl rks => ?_⟩
      refine ⟨_, rfl, by simp [sizeLine], fun z hz => ?_⟩
      have exz := ex3.newT (o := .tup [.ref l, x]) hz
      have hD3 := exz _ _ hD1
      have hlz := Ex.new (o := .tup [.ref l, x]) hz _ _ hl
      have nl : l ≠ D2 := fun e => by
        rw [e, hD1] at hl0
        cases hl0
      refine ⟨its, hD3, by simp [sizeLine]; omega, (ex.trans exz).mut hD, _, upd_same, ?_⟩
      rw [List.take_succ, hs1]
      refine pair_snoc' (pair_mapP rits fun p q h => (h.ex exz).put hD3) ?_
      exact ItD.put (D := D2) ⟨z, l, ks, x, rfl, upd_same, hlz, rks.ex (Ex.new hz), (rs1.ex ex3).ex (Ex.new hz), nl⟩ hD3
    · obtain ⟨ex, its, hD1, rits⟩ := hP
      rw [List.take_of_length_le (by omega)] at rits
      refine ⟨D2, its, rfl, .of hD1, fun x hx => ?_, fun ys p hperm hp => ?_⟩
      · obtain ⟨s1, _, h1⟩ := pair_mem rits hx
        exact ⟨s1, h1.item⟩
      · obtain ⟨ts, hts, rts⟩ := pair_perm hperm rits
        have rts2 : Paired (ItemV (upd H1 p (.lst ys))) ys ts := pair_mapP rts fun p q h => (h.ex (Ex.new hp)).item
        have tlen : ts.length = ss.length := hts.length_eq
        have ylen : ys.length = ts.length := rts2.length
        have exp := ex.newT (o := .lst ys) hp
        have hpp : upd H1 p (.lst ys) p = some (.lst ys) := upd_same
        generalize upd H1 p (.lst ys) = H2 at rts2 exp hpp
        refine ⟨p, rfl, ⟨_, .of hpp⟩, fun D3 hD3 => ?_⟩
        refine lc_it (walk_list (xs := ys)) (fun i H' => Ex H2 H' ∧ ∃ zs, H' D3 = some (.lst zs) ∧ RDs H' zs ((ts.take i).map dS)) ⟨Ex.new hD3, [], upd_same, .nil⟩ (fun i H1 _ hP => .of (hP.1 _ _ hpp)) (fun i x _ H3 hi hP hy => ?_) (fun H3 hP => ?_)
        · obtain ⟨rfl, hx⟩ := hy
          obtain ⟨ex3, zs, hD4, rzs⟩ := hP
          obtain ⟨s1, hs1, t1, l1, ks, v1, rfl, ht1, _, _, rv1⟩ := pair_at rts2 hx
          have tu := Tu.lst (o := .lst (zs ++ [v1])) hD4
          refine ⟨t1, _, rfl, .of (ex3 _ _ ht1), rfl, _, _, rfl, _, _, rfl, rfl, rfl, _, rfl, zs, hD4, by rw [rzs.length, List.length_map, List.length_take]; simp [sizeLine]; omega, ex3.mut hD3, _, upd_same, ?_⟩
          rw [List.take_succ, hs1, List.map_append]
          exact (rzs.tu tu).app (.cons ((rv1.ex ex3).tu tu) .nil)
        · obtain ⟨ex3, zs, hD4, rzs⟩ := hP
          rw [List.take_of_length_le (by omega)] at rzs
          exact ⟨D3, zs, rfl, .inl ⟨.of hD4, fun t ht => q ts t zs _ hts ((exp.trans ex3).newT ht) upd_same (rzs.ex (Ex.new ht))⟩⟩
end
end Cp
end

section
set_option Elab.async false
set_option linter.all false
set_option maxRecDepth 100000
set_option maxHeartbeats 4000000
namespace Cp
open PySem PySem.Spec PyProof.Rows L2
def dSto (d : Sto) : PyData := .tuple [dN d.1, dN d.2.1, .tuple (d.2.2.map dN)]
theorem RD.sto {H : Hp} {v : V} {d : Sto} (h : RD H v (dSto d)) : ∃ a b, v = .ref a ∧ H a = some (.tup [vN d.1, vN d.2.1, .ref b]) ∧ H b = some (.tup (d.2.2.map vN)) := by
  obtain ⟨p, xs, rfl, e, r⟩ := h.inv_tup
  cases r with
  | cons h1 r =>
    cases r with
    | cons h2 r =>
      cases r with
      | cons h3 r =>
        cases r
        cases h1.inv_int
        cases h2.inv_int
        obtain ⟨b, rfl, hb⟩ := h3.nats
        exact ⟨p, b, rfl, e, hb⟩
theorem rd_sto {H : Hp} {a b : Addr} {op pl : Nat} {ns : List Nat} (h : H a = some (.tup [vN op, vN pl, .ref b])) (h2 : H b = some (.tup (ns.map vN))) : RD H (.ref a) (dSto (op, pl, ns)) := .tup h (.cons (.int _) (.cons (.int _) (.cons (.tup h2 (rds_n _)) .nil)))
section
variable {P : Program} {w : World} {K : PySem.W.Frag} {mg : Str → Option Value} {base : Heap}
/-! steps_of -/
def sp_steps_of : Sp := fun vs H Q _ => ∃ (v : V) (m : Mach) (many : Nat), vs = [v, vN many] ∧ RD H v (dM m) ∧ m.Ok ∧ many ≤ 100000 ∧
  ∀ (l : Addr) (xs : List V) (H' : Hp), H l = none → Ex H H' → H' l = some (.lst xs) → RDs H' xs ((stepsO m.ar many).map dSto) → Q (.ref l) H'
theorem ok_steps_of (T : Tx mg) (D : Def K mg "steps_of" s_steps_of) : Cal P w K mg base CX0 "steps_of" 1 ["machine", "many"] sp_steps_of := by
  obtain ⟨f, fd, F, hm⟩ := D.ex
  refine ⟨f, fd, F.ok sc_steps_of (fun vs H Q E h => ?_) (fun cdv A outer s H vs Q E hr h => ?_), hm, F.kp, F.binds fun _ _ _ _ _ _ us hl => match us, hl with | [_, _], _ => rfl⟩
  · obtain ⟨v, m, k, rfl, _⟩ := h
    rfl
  · obtain ⟨v, m, k, rfl, hM, ok, hk, q⟩ := h
    obtain ⟨p, pa, pi, pc, ai, ac, M⟩ := hM.mv
    cases M.e
    refine ⟨_, (pss_cons (ps_set (i := 2) sc_steps_of.nd rfl (by first | exact .inl rfl | exact .inr rfl) (pe_lst pa_nil))
  (pss_cons (ps_for PassesOwn.never rfl (pi_enumT (by rfl) T.enumerate (pa_cons (pe_ix (kx_tup K) (pv 0) pe_int (fun _ _ => rfl)) pa_nil)) (kg_tup K (n := 2) rfl (pgs_cons (pg_name (i := 3) sc_steps_of.nd rfl (by first | exact .inl rfl | exact .inr rfl)) (pgs_cons (pg_name (i := 4) sc_steps_of.nd rfl (by first | exact .inl rfl | exact .inr rfl)) pgs_nil)))
  (pss_cons (ps_if (pt_cmpR op_eq (pv 4) pe_int (nomark _)) (pss_one (ps_expr (pe_bm PySem.F.plainAttrs_list PySem.F.slot_list_append PySem.F.type_list_append mt_append (pv 2) (pa_cons (pe_tup (pa_cons (pv 3) (pa_cons pe_int (pa_cons (pe_tup pa_nil) pa_nil)))) pa_nil)))) pss_nil)
  (pss_one (ps_if (pt_cmpR op_eq (pv 4) pe_int (nomark _)) (pss_one (ps_for PassesOwn.never rfl (ki_tup K (pe_tup (pa_cons pe_int (pa_cons pe_int pa_nil)))) (pg_name (i := 5) sc_steps_of.nd rfl (by first | exact .inl rfl | exact .inr rfl))
  (pss_one (ps_expr (pe_bm PySem.F.plainAttrs_list PySem.F.slot_list_extend PySem.F.type_list_extend mt_extend (pv 2) (pa_cons (pe_lc (own := [("number", 6)]) rfl sc_steps_of.nd (pi_range1 (by rfl) T.range (pa_cons (pv 1) pa_nil)) (blkOk_by (own := [("number", 6)]) (N := ["machine", "many", "found", "operator", "arity", "place", "number"]) (sc := defScope s_steps_of) (by decide +kernel)) (fun _ _ _ _ _ => (pg_name (i := 6) sc_steps_of.nd rfl (by first | exact .inl rfl | exact .inr rfl))) (fun _ _ _ _ _ => pts_nil) (fun _ _ _ _ _ => (pe_tup (pa_cons (pv 3) (pa_cons (pv 5) (pa_cons (pe_tup (pa_cons (pv 6) pa_nil)) pa_nil)))))) pa_nil)))))) pss_nil))))
  (pss_one (ps_ret (pv 2))))), ?_⟩
    refine ⟨by simp, fun l hl => ?_⟩
    have ex0 : Ex H (upd H l (.lst [])) := Ex.new hl
    refine ⟨_, rfl, p, _, _, _, rfl, rfl, .of (ex0 _ _ M.at0), rfl, pa, _, rfl, .of (ex0 _ _ M.at1), ?_⟩
    refine for_it walk_n (fun i σ H' => (∃ x3 x4 x5 x6, σ = [some (.ref p), some (vN k), some (.ref l), x3, x4, x5, x6]) ∧ Ex H H' ∧ ∃ xs, H' l = some (.lst xs) ∧ RDs H' xs ((itn (fun op acc => acc ++ stp1 k op (m.ar.getD op 0)) i []).map dSto)) ⟨⟨_, _, _, _, rfl⟩, ex0, [], upd_same, .nil⟩ (fun i σ H2 _ hP => .of (hP.2.1 _ _ M.at1)) (fun i x σ H1 H2 hi hP hy => ?_) (fun σ H2 hP => ?_)
    · obtain ⟨T1, y1, y2, rfl, nT, rfl, e1, e2⟩ := hy
      cases e1
      rw [List.length_map] at hi
      replace e2 : (m.ar.map vN)[i]? = some y2 := e2
      rw [List.getElem?_map, List.getElem?_eq_getElem hi] at e2
      cases e2
      obtain ⟨⟨x3, x4, x5, x6, rfl⟩, ex, xs, hl1, hxs⟩ := hP
      have exT := Ex.new (o := .tup [.int (i : Nat), vN m.ar[i]]) nT
      have ex1 := ex.trans exT
      have hl2 := exT _ _ hl1
      have hx2 := hxs.ex exT
      generalize hH2 : upd H1 T1 (.tup [.int (i : Nat), vN m.ar[i]]) = H2 at exT ex1 hl2 hx2
      refine ⟨T1, _, rfl, SqT.of (by rw [← hH2]; exact upd_same), rfl, _, _, rfl, _, _, rfl, rfl, ?_⟩
      have ha2 := ok.a2 _ (List.getElem_mem hi)
      have ha6 := ok.a6
      have gd : m.ar.getD i 0 = m.ar[i] := getD_at (List.getElem?_eq_getElem hi)
      have es : itn (fun op acc => acc ++ stp1 k op (m.ar.getD op 0)) (i + 1) [] = itn (fun op acc => acc ++ stp1 k op (m.ar.getD op 0)) i [] ++ stp1 k i m.ar[i] := by rw [← gd]; rfl
      have hal := stepsO_len (ar := m.ar) (many := k) i
      generalize hacc : itn (fun op acc => acc ++ stp1 k op (m.ar.getD op 0)) i [] = acc at hxs hx2 es hal
      have hxl : xs.length + (2 * k + 1) < sizeLine := by
        rw [hxs.length, List.length_map]
        have : i * (2 * k + 1) ≤ 6 * (2 * k + 1) := Nat.mul_le_mul_right _ (by omega)
        simp [sizeLine]
        omega
      have fin : ∀ {H3 : Hp} {ys : List V} {y5 y6 : Option V}, Ex H H3 → H3 l = some (.lst (xs ++ ys)) → RDs H3 xs (acc.map dSto) → RDs H3 ys ((stp1 k i m.ar[i]).map dSto) → (∃ x3 x4 x5 x6, [some (.ref p), some (vN k), some (.ref l), some (.int (i : Nat)), some (vN m.ar[i]), y5, y6] = [some (.ref p), some (vN k), some (.ref l), x3, x4, x5, x6]) ∧ Ex H H3 ∧ ∃ xs, H3 l = some (.lst xs) ∧ RDs H3 xs ((itn (fun op acc => acc ++ stp1 k op (m.ar.getD op 0)) (i + 1) []).map dSto) := fun {H3 ys y5 y6} h1 h2 h3 h4 =>
        ⟨⟨_, _, _, _, rfl⟩, h1, _, h2, by rw [es, List.map_append]; exact h3.app h4⟩
      generalize m.ar[i] = a at *
      have h3 : a = 0 ∨ a = 1 ∨ a = 2 := by omega
      rcases h3 with rfl | rfl | rfl
      · refine ⟨_, rfl, rfl, _, rfl, itF Bool.false_ne_true ?_⟩
        refine ⟨_, rfl, rfl, _, rfl, itF Bool.false_ne_true ?_⟩
        exact fin (ys := []) ex1 (by rw [List.append_nil]; exact hl2) hx2 .nil
      · refine ⟨_, rfl, rfl, _, rfl, itT rfl ?_⟩
        refine ⟨_, rfl, .inl ⟨rfl, xs, .of hl2⟩, ?_⟩
        refine ⟨_, rfl, by simp, fun z hz => ⟨by simp [sizeLine], fun z2 hz2 => ?_⟩⟩
        have exz := (Ex.new (o := .tup []) hz).newT (o := .tup [vN i, vN 0, .ref z]) hz2
        have hl3 := exz _ _ hl2
        have tu := Tu.lst (o := .lst (xs ++ [.ref z2])) hl3
        refine ⟨l, xs, _, rfl, rfl, hl3, by omega, ?_⟩
        refine ⟨_, rfl, rfl, _, rfl, itF Bool.false_ne_true ?_⟩
        refine fin ((ex1.trans exz).mut hl) upd_same ((hx2.ex exz).tu tu) ?_
        exact .cons ((rd_sto (ns := []) (upd_same) (Ex.new hz2 _ _ upd_same)).tu tu) .nil
      · refine ⟨_, rfl, rfl, _, rfl, itF Bool.false_ne_true ?_⟩
        refine ⟨_, rfl, rfl, _, rfl, itT rfl ?_⟩
        refine ⟨by simp [sizeLine], fun z hz => ?_⟩
        have exz := Ex.new (o := .tup [.int 0, .int 1]) hz
        have hz1 : upd H2 z (.tup [.int 0, .int 1]) z = some (.tup [.int 0, .int 1]) := upd_same
        have hl3 := exz _ _ hl2
        have hx3 := hx2.ex exz
        have ex3 := ex1.trans exz
        generalize upd H2 z (.tup [.int 0, .int 1]) = H3 at exz hz1 hl3 hx3 ex3
        refine ⟨z, rfl, ⟨_, .of hz1⟩, ?_⟩
        refine for_it (walk_tup (xs := [.int 0, .int 1])) (fun j σ H' => (∃ x5 x6, σ = [some (.ref p), some (vN k), some (.ref l), some (.int (i : Nat)), some (vN 2), x5, x6]) ∧ Ex H H' ∧ H' z = some (.tup [.int 0, .int 1]) ∧ ∃ ys, H' l = some (.lst (xs ++ ys)) ∧ RDs H' xs (acc.map dSto) ∧ RDs H' ys ((plc k i j).map dSto)) ⟨⟨_, _, rfl⟩, ex3, hz1, [], by rw [List.append_nil]; exact hl3, hx3, .nil⟩ (fun j σ H4 _ hP => .of hP.2.2.1) (fun j x σ _ H4 hj hP hy => ?_) (fun σ H4 hP => ?_)
        · obtain ⟨rfl, hx⟩ := hy
          obtain ⟨⟨x5, x6, rfl⟩, ex4, hz4, ys, hl4, rx4, ry4⟩ := hP
          have hj2 : j < 2 := hj
          have ylen := ry4.length
          rw [List.length_map, plc_len] at ylen
          obtain rfl : x = vN j := by
            have : j = 0 ∨ j = 1 := by omega
            rcases this with rfl | rfl <;> (cases hx; rfl)
          refine ⟨_, rfl, .inl ⟨rfl, _, .of hl4⟩, ?_⟩
          refine ⟨_, rfl, _, rfl, by omega, by omega, fun D3 hD3 => ?_⟩
          refine lc_it (walk_rn (n := k)) (fun j2 H' => Ex H4 H' ∧ ∃ zs, H' D3 = some (.lst zs) ∧ RDs H' zs (((List.range j2).map (fun n => ((i, j, [n]) : Sto))).map dSto)) ⟨Ex.new hD3, [], upd_same, .nil⟩ (fun j H5 _ hP => trivial) (fun j2 x _ H5 hj2 hP hy => ?_) (fun H5 hP => ?_)
          · obtain ⟨rfl, rfl⟩ := hy
            obtain ⟨ex5, zs, hzs, rzs⟩ := hP
            refine ⟨rfl, ?_⟩
            refine ⟨_, rfl, _, rfl, _, rfl, by simp [sizeLine], fun z hz => ⟨by simp [sizeLine], fun z2 hz2 => ?_⟩⟩
            have exz := (Ex.new (o := .tup [.int (j2 : Nat)]) hz).newT (o := .tup [vN i, vN j, .ref z]) hz2
            have hys2 := exz _ _ hzs
            have tu := Tu.lst (o := .lst (zs ++ [.ref z2])) hys2
            refine ⟨zs, hys2, by rw [rzs.length, List.length_map, List.length_map, List.length_range]; simp [sizeLine]; omega, (ex5.trans exz).mut hD3, _, upd_same, ?_⟩
            rw [List.range_succ, List.map_append, List.map_append]
            exact ((rzs.ex exz).tu tu).app (.cons ((rd_sto (ns := [j2]) (upd_same) (Ex.new hz2 _ _ upd_same)).tu tu) .nil)
          · obtain ⟨ex5, zs, hzs, rzs⟩ := hP
            have hl5 := ex5 _ _ hl4
            have tu := Tu.lst (o := .lst (xs ++ ys ++ zs)) hl5
            have zlen : zs.length = k := by rw [rzs.length, List.length_map, List.length_map, List.length_range]
            refine ⟨l, D3, _, zs, rfl, rfl, hl5, hzs, ?_, ⟨_, _, rfl⟩, (ex4.trans ex5).mut hl, ?_, ys ++ zs, by rw [upd_same, List.append_assoc], (rx4.ex ex5).tu tu, ?_⟩
            · rw [List.length_append]
              have : j * k ≤ 1 * k := Nat.mul_le_mul_right _ (by omega)
              omega
            · exact tu _ _ (ex5 _ _ hz4)
            · rw [plc_succ, List.map_append]
              exact ((ry4.ex ex5).tu tu).app (rzs.tu tu)
        · obtain ⟨⟨x5, x6, rfl⟩, ex4, hz4, ys, hl4, rx4, ry4⟩ := hP
          exact fin ex4 hl4 rx4 ry4
    · obtain ⟨⟨x3, x4, x5, x6, rfl⟩, ex, xs, hl1, hxs⟩ := hP
      rw [List.length_map] at hxs
      exact ⟨_, rfl, q l xs H2 hl ex hl1 hxs⟩
end
end Cp
end

section
set_option Elab.async false
set_option linter.all false
/-! what classes computes, as functions -/
namespace Cp
/-- a found state: (state, operator, numbers) -/
abbrev Ent := Row × Nd
/-- a move: (number, growth) -/
abbrev Mv := Nat × Option Int
def argsO (ss : List Row) (st : Sto) (s : Row) : List Row := (st.2.2.map fun k => ss.getD k []).take st.2.1 ++ [s] ++ (st.2.2.map fun k => ss.getD k []).drop st.2.1
def mv1 (m : Mach) (ss : List Row) (st : Sto) (s : Row) : Mv := (ss.idxOf (relS (jrow m st.1 (argsO ss st s))), baseF (jrow m st.1 (argsO ss st s)))
def movesF (m : Mach) (ss : List Row) : List (List Mv) := (stepsO m.ar ss.length).map fun st => ss.map (mv1 m ss st)
/-- the siblings are found states -/
theorem plc_mem {many op j : Nat} {st : Sto} (h : st ∈ plc many op j) : ∃ pl n, pl < j ∧ n < many ∧ st = (op, pl, [n]) := by
  unfold plc at h
  simp only [List.mem_flatMap, List.mem_range, List.mem_map] at h
  obtain ⟨pl, h1, n, h2, rfl⟩ := h
  exact ⟨pl, n, h1, h2, rfl⟩
theorem stp1_mem {many op a : Nat} {st : Sto} (h : st ∈ stp1 many op a) : (a = 1 ∧ st = (op, 0, [])) ∨ (a = 2 ∧ ∃ pl n, pl < 2 ∧ n < many ∧ st = (op, pl, [n])) := by
  unfold stp1 at h
  split at h
  · next e => exact .inl ⟨e, by simpa using h⟩
  · split at h
    · next e => exact .inr ⟨e, plc_mem h⟩
    · cases h
theorem stepsO_mem {ar : List Nat} {many : Nat} {st : Sto} : ∀ {i : Nat}, i ≤ ar.length → st ∈ itn (fun op acc => acc ++ stp1 many op (ar.getD op 0)) i [] → ∃ op a, op < i ∧ ar[op]? = some a ∧ st ∈ stp1 many op a
  | 0, _, h => by cases h
  | i + 1, hi, h => by
    rcases List.mem_append.mp h with h | h
    · obtain ⟨op, a, h1, h2, h3⟩ := stepsO_mem (i := i) (by omega) h
      exact ⟨op, a, by omega, h2, h3⟩
    · refine ⟨i, ar.getD i 0, by omega, ?_, h⟩
      rw [List.getD_eq_getElem?_getD, List.getElem?_eq_getElem (by omega)]
      rfl
theorem stepsO_of {ar : List Nat} {many op a : Nat} {st : Sto} (h2 : ar[op]? = some a) (h3 : st ∈ stp1 many op a) : ∀ {i : Nat}, op < i → i ≤ ar.length → st ∈ itn (fun op acc => acc ++ stp1 many op (ar.getD op 0)) i []
  | 0, h, _ => by omega
  | i + 1, h, hi => by
    by_cases e : op = i
    · refine List.mem_append_right _ ?_
      subst e
      rw [List.getD_eq_getElem?_getD, h2]
      exact h3
    · exact List.mem_append_left _ (stepsO_of h2 h3 (by omega) (by omega))
/-- a step's shape -/
theorem stepsO_iff {ar : List Nat} {many : Nat} {st : Sto} : st ∈ stepsO ar many ↔ ∃ op a, ar[op]? = some a ∧ st ∈ stp1 many op a := by
  refine ⟨fun h => ?_, fun ⟨op, a, h1, h2⟩ => stepsO_of h1 h2 (List.getElem?_eq_some_iff.mp h1).1 (Nat.le_refl _)⟩
  obtain ⟨op, a, _, h2, h3⟩ := stepsO_mem (Nat.le_refl _) h
  exact ⟨op, a, h2, h3⟩
/-- all that the steps lead to is known -/
def ClosedO (m : Mach) (ss : List Row) : Prop := ∀ st ∈ stepsO m.ar ss.length, ∀ s ∈ ss, relS (jrow m st.1 (argsO ss st s)) ∈ ss
end Cp
end

section
set_option Elab.async false
set_option linter.all false
set_option maxRecDepth 100000
set_option maxHeartbeats 4000000
namespace Cp
open PySem PySem.Spec PyProof.Rows L2
/-! ### dict comprehensions over a walk -/
section
variable {P : Program} {w : World} {J : It} {n : Nat} {G : Hp → Prop} {Y : Nat → Hp → V → Hp → Prop}
theorem dcN_it (wk : Walk J n G Y) {g : TG} {tt : TT} {tk tv : TE} {vs : List Nat} {σ : L2.St} {H1 : Hp} {D : Addr} {Qd : Hp → Prop} (Pv : Nat → Hp → Prop) (h0 : Pv 0 (upd H1 D (dnO P w D []))) (hG : ∀ i H, i ≤ n → Pv i H → G H)
    (hs : ∀ i x H H', i < n → Pv i H → Y i H x H' → g x (wipe σ vs) H' fun σ2 H2 => wipe σ2 vs = wipe σ vs ∧ tt σ2 H2 fun b H3 =>
      if b = true then tk σ2 H3 fun y H4 => tv σ2 H4 fun z H5 => ∃ kvs b k, IsK H5 y b k ∧ DN P w H5 D kvs ∧ kvs.length < sizeLine ∧ (∀ H6, (∀ c, c ≠ D → H6 c = H5 c) → DN P w H6 D (putN kvs k z) → Pv (i + 1) H6) else Pv (i + 1) H3) (hd : ∀ H, Pv n H → Qd H) :
    ∃ W : Nat → Nat → Hp → Prop, (∃ m, W 0 m (upd H1 D (dnO P w D []))) ∧ ∀ i m H, W i m H →
  (J.stop i H ∧ Qd H) ∨ (J.go i H ∧ ∃ Nx : Hp → Prop, (∀ H', Nx H' → ∃ m', m' < m ∧ W (i + 1) m' H') ∧ ∀ x H', J.yld i H x H' → g x (wipe σ vs) H' fun σ2 H2 => wipe σ2 vs = wipe σ vs ∧ tt σ2 H2 fun b H3 =>
    if b = true then tk σ2 H3 fun y H4 => tv σ2 H4 fun z H5 => ∃ kvs b k, IsK H5 y b k ∧ DN P w H5 D kvs ∧ kvs.length < sizeLine ∧ (∀ H6, (∀ c, c ≠ D → H6 c = H5 c) → DN P w H6 D (putN kvs k z) → Nx H6) else Nx H3) := by
  refine ⟨fun i m H => m = n - i ∧ i ≤ n ∧ Pv i H, ⟨n, by simp, Nat.zero_le _, h0⟩, ?_⟩
  rintro i m H ⟨rfl, hi, p⟩
  have q := hG i H hi p
  by_cases hlt : i < n
  · exact .inr ⟨wk.goes i H hlt q, Pv (i + 1), fun H' p' => ⟨n - (i + 1), by omega, rfl, hlt, p'⟩, fun x H' y => hs i x H H' hlt p (wk.yields i H x H' hlt q y)⟩
  · have e : i = n := by omega
    subst e
    exact .inl ⟨wk.stops H q, hd H p⟩
theorem dc_it (wk : Walk J n G Y) {g : TG} {tt : TT} {tk tv : TE} {vs : List Nat} {σ : L2.St} {H1 : Hp} {D : Addr} {Qd : Hp → Prop} (Pv : Nat → Hp → Prop) (h0 : Pv 0 (upd H1 D (.dK []))) (hG : ∀ i H, i ≤ n → Pv i H → G H)
    (hs : ∀ i x H H', i < n → Pv i H → Y i H x H' → g x (wipe σ vs) H' fun σ2 H2 => wipe σ2 vs = wipe σ vs ∧ tt σ2 H2 fun b H3 =>
      if b = true then tk σ2 H3 fun y H4 => tv σ2 H4 fun z H5 => ∃ kvs k, y = kV k ∧ H5 D = some (.dK kvs) ∧ kvs.length < sizeLine ∧ Pv (i + 1) (upd H5 D (.dK (putK kvs k z))) else Pv (i + 1) H3) (hd : ∀ H, Pv n H → Qd H) :
    ∃ W : Nat → Nat → Hp → Prop, (∃ m, W 0 m (upd H1 D (.dK []))) ∧ ∀ i m H, W i m H →
  (J.stop i H ∧ Qd H) ∨ (J.go i H ∧ ∃ Nx : Hp → Prop, (∀ H', Nx H' → ∃ m', m' < m ∧ W (i + 1) m' H') ∧ ∀ x H', J.yld i H x H' → g x (wipe σ vs) H' fun σ2 H2 => wipe σ2 vs = wipe σ vs ∧ tt σ2 H2 fun b H3 =>
    if b = true then tk σ2 H3 fun y H4 => tv σ2 H4 fun z H5 => ∃ kvs k, y = kV k ∧ H5 D = some (.dK kvs) ∧ kvs.length < sizeLine ∧ Nx (upd H5 D (.dK (putK kvs k z))) else Nx H3) := by
  refine ⟨fun i m H => m = n - i ∧ i ≤ n ∧ Pv i H, ⟨n, by simp, Nat.zero_le _, h0⟩, ?_⟩
  rintro i m H ⟨rfl, hi, p⟩
  have q := hG i H hi p
  by_cases hlt : i < n
  · exact .inr ⟨wk.goes i H hlt q, Pv (i + 1), fun H' p' => ⟨n - (i + 1), by omega, rfl, hlt, p'⟩, fun x H' y => hs i x H H' hlt p (wk.yields i H x H' hlt q y)⟩
  · have e : i = n := by omega
    subst e
    exact .inl ⟨wk.stops H q, hd H p⟩
end
/-- only D changed, and D is new -/
theorem Ex.at {H0 H H' : Hp} {D : Addr} (e : Ex H0 H) (h : H0 D = none) (k : ∀ c, c ≠ D → H' c = H c) : Ex H0 H' := fun c o q => by
  rw [k c (ne_of_none q h)]
  exact e c o q
theorem Tu.at {P : Program} {w : World} {H H' : Hp} {D : Addr} {kvs : List (NestedKey × V)} (d : DN P w H D kvs) (k : ∀ c, c ≠ D → H' c = H c) : Tu H H' := fun c xs q => by
  obtain ⟨φ, hf⟩ := d.has
  rw [k c (fun e => by rw [e, hf] at q; cases q)]
  exact q
theorem DN.putL {P : Program} {w : World} {H : Hp} {D l : Addr} {kvs : List (NestedKey × V)} {xs : List V} {o : HO} (d : DN P w H D kvs) (h : H l = some (.lst xs)) : DN P w (upd H l o) D kvs := by
  obtain ⟨φ, hf⟩ := d.has
  exact d.mono (Tu.lst h) (upd_ne (fun e => by rw [e, h] at hf; cases hf))
/-! ### states as keys -/
def oNK : Option Int → NestedKey
  | none => .none
  | some i => .num i
def nkS (s : Row) : NestedKey := .tup (s.map oNK)
theorem nks_row {H : Hp} (s : Row) : NKs H (s.map vO) (s.map oNK) := by
  induction s with
  | nil => exact .nil
  | cons x r ih =>
    refine .cons ?_ ih
    cases x with
    | none => exact .non
    | some i => exact .int i
theorem oNK_inj {a b : Option Int} (h : oNK a = oNK b) : a = b := by
  cases a <;> cases b <;> simp [oNK] at h ⊢
  exact h
theorem map_oNK_inj : ∀ {s t : Row}, s.map oNK = t.map oNK → s = t
  | [], [], _ => rfl
  | [], _ :: _, h => by simp at h
  | _ :: _, [], h => by simp at h
  | a :: s, b :: t, h => by
    rw [List.map_cons, List.map_cons] at h
    injection h with h1 h2
    rw [oNK_inj h1, map_oNK_inj h2]
theorem nkS_inj {s t : Row} (h : nkS s = nkS t) : s = t := by
  unfold nkS at h
  injection h with h
  exact map_oNK_inj h
theorem depth_oNK : ∀ (s : Row), NestedKey.depthAll (s.map oNK) ≤ 1
  | [] => by simp [NestedKey.depthAll]
  | x :: r => by
    have := depth_oNK r
    rw [List.map_cons, NestedKey.depthAll]
    cases x <;> simp [oNK, NestedKey.depth] <;> omega
theorem nkS_depth (s : Row) : (nkS s).depth ≤ 8 := by
  have := depth_oNK s
  unfold nkS
  simp only [NestedKey.depth]
  omega
theorem RD.key {H : Hp} {v : V} {s : Row} (h : RD H v (dS s)) : ∃ b, v = .ref b ∧ IsK H v b (nkS s) := by
  obtain ⟨a, rfl, e⟩ := h.row
  exact ⟨a, rfl, rfl, .tup e (nks_row s), nkS_depth s⟩
theorem IsK.tu {H H' : Hp} {v : V} {b : Addr} {k : NestedKey} (h : IsK H v b k) (t : Tu H H') : IsK H' v b k := ⟨h.1, h.2.1.tu t, h.2.2⟩
/-- the states with what f tells by the place -/
def numK (ss : List Row) (f : Nat → V) (i : Nat) : List (NestedKey × V) := (List.range i).map fun j => (nkS (ss.getD j []), f j)
theorem numK_succ (ss : List Row) (f : Nat → V) (i : Nat) : numK ss f (i + 1) = numK ss f i ++ [(nkS (ss.getD i []), f i)] := by
  unfold numK
  rw [List.range_succ, List.map_append]
  rfl
theorem numK_len (ss : List Row) (f : Nat → V) (i : Nat) : (numK ss f i).length = i := by unfold numK; simp
theorem look_none {kvs : List (NestedKey × V)} {k : NestedKey} (h : ∀ p ∈ kvs, p.1 ≠ k) : lookN kvs k = none := by
  unfold lookN
  rw [List.find?_eq_none.mpr (fun p hp => by simpa using h p hp)]
  rfl
theorem look_snoc {kvs : List (NestedKey × V)} {k : NestedKey} {v : V} (h : lookN kvs k = none) : lookN (kvs ++ [(k, v)]) k = some v := by
  unfold lookN at h ⊢
  rw [Option.map_eq_none_iff] at h
  rw [List.find?_append, h]
  simp
theorem look_app {kvs : List (NestedKey × V)} {k k' : NestedKey} {v : V} (h : k' ≠ k) : lookN (kvs ++ [(k', v)]) k = lookN kvs k := by
  unfold lookN
  rw [List.find?_append]
  cases e : kvs.find? (fun p => decide (p.1 = k)) with
  | some p => rfl
  | none => simp [h]
theorem put_new {kvs : List (NestedKey × V)} {k : NestedKey} {v : V} (h : lookN kvs k = none) : putN kvs k v = kvs ++ [(k, v)] := by
  unfold putN
  rw [h]
  rfl
theorem numK_put {ss : List Row} {f : Nat → V} {i : Nat} (hn : ss.Nodup) (hi : i < ss.length) : putN (numK ss f i) (nkS (ss.getD i [])) (f i) = numK ss f (i + 1) := by
  rw [numK_succ]
  refine put_new (look_none fun p hp => ?_)
  unfold numK at hp
  rw [List.mem_map] at hp
  obtain ⟨j, hj, rfl⟩ := hp
  rw [List.mem_range] at hj
  intro e
  have := nkS_inj e
  rw [getD_at (List.getElem?_eq_getElem hi), getD_at (List.getElem?_eq_getElem (show j < ss.length by omega))] at this
  have := (List.getElem?_inj (i := j) (j := i) (by omega) hn).mp (by rw [List.getElem?_eq_getElem hi, List.getElem?_eq_getElem (show j < ss.length by omega), this])
  omega
theorem numK_look {ss : List Row} {f : Nat → V} (hn : ss.Nodup) : ∀ {i j : Nat}, j < i → i ≤ ss.length → lookN (numK ss f i) (nkS (ss.getD j [])) = some (f j)
  | 0, _, h, _ => by omega
  | i + 1, j, h, hi => by
    rw [numK_succ]
    by_cases e : j = i
    · subst e
      refine look_snoc (look_none fun p hp => ?_)
      unfold numK at hp
      rw [List.mem_map] at hp
      obtain ⟨k, hk, rfl⟩ := hp
      rw [List.mem_range] at hk
      intro e
      have := nkS_inj e
      rw [getD_at (List.getElem?_eq_getElem (show j < ss.length by omega)), getD_at (List.getElem?_eq_getElem (show k < ss.length by omega))] at this
      have := (List.getElem?_inj (i := k) (j := j) (by omega) hn).mp (by rw [List.getElem?_eq_getElem (show j < ss.length by omega), List.getElem?_eq_getElem (show k < ss.length by omega), this])
      omega
    · rw [look_app]
      · exact numK_look hn (by omega) (by omega)
      · intro e2
        have := nkS_inj e2
        rw [getD_at (List.getElem?_eq_getElem (show j < ss.length by omega)), getD_at (List.getElem?_eq_getElem (show i < ss.length by omega))] at this
        have := (List.getElem?_inj (i := j) (j := i) (by omega) hn).mp (by rw [List.getElem?_eq_getElem (show j < ss.length by omega), List.getElem?_eq_getElem (show i < ss.length by omega), this])
        omega
theorem numK_idx {ss : List Row} {f : Nat → V} {s : Row} (hn : ss.Nodup) (hs : s ∈ ss) : lookN (numK ss f ss.length) (nkS s) = some (f (ss.idxOf s)) := by
  have h1 := List.idxOf_lt_length_of_mem hs
  have h2 := numK_look (f := f) hn h1 (Nat.le_refl _)
  rw [getD_at (List.getElem?_eq_getElem h1), List.getElem_idxOf] at h2
  exact h2
/-! ### found states -/
def dEnt (e : Ent) : PyData := .tuple [dS e.1, dN e.2.1, .tuple (e.2.2.map dN)]
theorem RD.ent {H : Hp} {v : V} {e : Ent} (h : RD H v (dEnt e)) : ∃ a u b, v = .ref a ∧ H a = some (.tup [u, vN e.2.1, .ref b]) ∧ RD H u (dS e.1) ∧ H b = some (.tup (e.2.2.map vN)) := by
  obtain ⟨p, xs, rfl, e, r⟩ := h.inv_tup
  cases r with
  | cons h1 r =>
    cases r with
    | cons h2 r =>
      cases r with
      | cons h3 r =>
        cases r
        cases h2.inv_int
        obtain ⟨b, rfl, hb⟩ := h3.nats
        exact ⟨p, _, b, rfl, e, h1, hb⟩
theorem rd_ent {H : Hp} {a b : Addr} {u : V} {s : Row} {op : Nat} {ns : List Nat} (h : H a = some (.tup [u, vN op, .ref b])) (h1 : RD H u (dS s)) (h2 : H b = some (.tup (ns.map vN))) : RD H (.ref a) (dEnt (s, op, ns)) :=
  .tup h (.cons h1 (.cons (.int _) (.cons (.tup h2 (rds_n _)) .nil)))
/-- the list of found states -/
def OrV (H : Hp) (a : Addr) (order : List Ent) : Prop := ∃ xs, H a = some (.lst xs) ∧ RDs H xs (order.map dEnt)
theorem OrV.ex {H H' : Hp} {a : Addr} {order : List Ent} (h : OrV H a order) (e : Ex H H') : OrV H' a order := let ⟨xs, h1, h2⟩ := h; ⟨xs, e _ _ h1, h2.ex e⟩
def dMv (m : Mv) : PyData := .tuple [dN m.1, dO m.2]
theorem RD.mov {H : Hp} {v : V} {e : Mv} (h : RD H v (dMv e)) : ∃ a, v = .ref a ∧ H a = some (.tup [vN e.1, vO e.2]) := by
  obtain ⟨p, xs, rfl, e, r⟩ := h.inv_tup
  cases r with
  | cons h1 r =>
    cases r with
    | cons h2 r =>
      cases r
      cases h1.inv_int
      cases h2.inv_o
      exact ⟨p, rfl, e⟩
theorem rd_mov {H : Hp} {a : Addr} {e : Mv} (h : H a = some (.tup [vN e.1, vO e.2])) : RD H (.ref a) (dMv e) := .tup h (.cons (.int _) (.cons (rd_o _) .nil))
/-- the list of rows of moves -/
def MvV (H : Hp) (a : Addr) (mv : List (List Mv)) : Prop := ∃ as : List Addr, H a = some (.lst (as.map V.ref)) ∧ Paired (fun b row => ∃ xs, H b = some (.lst xs) ∧ RDs H xs (row.map dMv)) as mv
theorem MvV.ex {H H' : Hp} {a : Addr} {mv : List (List Mv)} (h : MvV H a mv) (e : Ex H H') : MvV H' a mv :=
  let ⟨as, h1, h2⟩ := h
  ⟨as, e _ _ h1, pair_mapP h2 fun b row ⟨xs, g1, g2⟩ => ⟨xs, e _ _ g1, g2.ex e⟩⟩
end Cp
end

section
set_option Elab.async false
set_option linter.all false
set_option maxRecDepth 100000
set_option maxHeartbeats 4000000
namespace Cp
open PySem PySem.Spec PyProof.Rows L2
section
variable {P : Program} {w : World} {K : PySem.W.Frag} {mg : Str → Option Value} {base : Heap}
/-! moves_of -/
def sp_moves_of : Sp := fun vs H Q _ => ∃ (v : V) (a : Addr) (m : Mach) (order : List Ent), vs = [v, .ref a] ∧ RD H v (dM m) ∧ m.Ok ∧ OrV H a order ∧ (∀ e ∈ order, e.1.length = m.n) ∧ (order.map (·.1)).Nodup ∧ ClosedO m (order.map (·.1)) ∧ order.length ≤ 1000 ∧
  ∀ (l : Addr) (H' : Hp), Ex H H' → MvV H' l (movesF m (order.map (·.1))) → Q (.ref l) H'
theorem ok_moves_of (T : Tx mg) (D : Def K mg "moves_of" s_moves_of) (C_ways_of : Cal P w K mg base CX0 "ways_of" 2 ["machine"] sp_ways_of) (C_steps_of : Cal P w K mg base CX0 "steps_of" 1 ["machine", "many"] sp_steps_of)
    (C_stepped : Cal P w K mg base CX0 "stepped" 4 ["machine", "ways", "operator", "arguments"] (sp_stepped K)) : Cal P w K mg base CX0 "moves_of" 5 ["machine", "order"] sp_moves_of := by
  obtain ⟨f, fd, F, hm⟩ := D.ex
  refine ⟨f, fd, F.ok sc_moves_of (fun vs H Q E h => ?_) (fun cdv A outer s H vs Q E hr h => ?_), hm, F.kp, F.binds fun _ _ _ _ _ _ us hl => match us, hl with | [_, _], _ => rfl⟩
  · obtain ⟨v, a, m, order, rfl, _⟩ := h
    rfl
  · obtain ⟨v, a, m, order, rfl, hM, ok, hO, hln, hnd, hcl, h1000, q⟩ := h
    obtain ⟨xs, hxs, rxs⟩ := hO
    have lx : xs.length = order.length := by rw [rxs.length, List.length_map]
    generalize hss : order.map (·.1) = ss at *
    have lss : ss.length = order.length := by rw [← hss, List.length_map]
    have hsn : ∀ r ∈ ss, r.length = m.n := fun r hr => by
      rw [← hss, List.mem_map] at hr
      obtain ⟨e2, h3, rfl⟩ := hr
      exact hln e2 h3
    refine ⟨_, (pss_cons (ps_par (i := 2) (j := 3) rfl sc_moves_of.nd rfl rfl (by decide) rfl rfl (pa_cons (pe_cal C_ways_of (by first | exact hr | exact hr.mono (by decide)) (by rfl) pass0 (pa_cons (pv 0) pa_nil)) (pa_cons (pe_lst pa_nil) pa_nil)) (by rfl))
  (pss_cons (ps_setDcN (i := 4) (own := [("number", 15), ("one", 16)]) (hu9 hr) rfl sc_moves_of.nd rfl rfl (swd_true rfl rfl rfl (by decide +kernel)) (pi_enum (by rfl) T.enumerate (pa_cons (pv 1) pa_nil)) (blkOk_by (own := [("number", 15), ("one", 16)]) (N := ["machine", "order", "ways", "found", "numbers", "operator", "place", "siblings", "row", "state", "its_operator", "its_numbers", "arguments", "later", "growth", "number", "one"]) (sc := defScope s_moves_of) (by decide +kernel)) (fun _ _ _ _ _ => (kg_tup K (n := 2) rfl (pgs_cons (pg_name (i := 15) sc_moves_of.nd rfl (by first | exact .inl rfl | exact .inr rfl)) (pgs_cons (pg_name (i := 16) sc_moves_of.nd rfl (by first | exact .inl rfl | exact .inr rfl)) pgs_nil)))) (fun _ _ _ _ _ => pts_nil) (fun _ _ _ _ _ => (pe_ix (kx_tup K) (pv 16) pe_int (fun _ _ => rfl))) (fun _ _ _ _ _ => (pv 15)))
  (pss_cons (ps_for PassesOwn.never rfl (ki_list K (pe_cal C_steps_of (by first | exact hr | exact hr.mono (by decide)) (by rfl) pass0 (pa_cons (pv 0) (pa_cons (pe_callB (kc_len K) (by rfl) T.len boot_len (pa_cons (pv 1) pa_nil)) pa_nil)))) (kg_tup K (n := 3) rfl (pgs_cons (pg_name (i := 5) sc_moves_of.nd rfl (by first | exact .inl rfl | exact .inr rfl)) (pgs_cons (pg_name (i := 6) sc_moves_of.nd rfl (by first | exact .inl rfl | exact .inr rfl)) (pgs_cons (pg_name (i := 7) sc_moves_of.nd rfl (by first | exact .inl rfl | exact .inr rfl)) pgs_nil))))
  (pss_cons (ps_set (i := 8) sc_moves_of.nd rfl (by first | exact .inl rfl | exact .inr rfl) (pe_lst pa_nil))
  (pss_cons (ps_for PassesOwn.never rfl (ki_list K (pv 1)) (kg_tup K (n := 3) rfl (pgs_cons (pg_name (i := 9) sc_moves_of.nd rfl (by first | exact .inl rfl | exact .inr rfl)) (pgs_cons (pg_name (i := 10) sc_moves_of.nd rfl (by first | exact .inl rfl | exact .inr rfl)) (pgs_cons (pg_name (i := 11) sc_moves_of.nd rfl (by first | exact .inl rfl | exact .inr rfl)) pgs_nil))))
  (pss_cons (ps_setLc (i := 12) (own := [("number", 15)]) rfl sc_moves_of.nd rfl rfl (sw_true rfl rfl rfl (by decide +kernel)) (ki_tup K (pv 7)) (blkOk_by (own := [("number", 15)]) (N := ["machine", "order", "ways", "found", "numbers", "operator", "place", "siblings", "row", "state", "its_operator", "its_numbers", "arguments", "later", "growth", "number", "one"]) (sc := defScope s_moves_of) (by decide +kernel)) (fun _ _ _ _ _ => (pg_name (i := 15) sc_moves_of.nd rfl (by first | exact .inl rfl | exact .inr rfl))) (fun _ _ _ _ _ => pts_nil) (fun _ _ _ _ _ => (pe_ix (kx_tup K) (pe_ix (kx_list K) (pv 1) (pv 15) (fun _ _ => rfl)) pe_int (fun _ _ => rfl))))
  (pss_cons (ps_expr (pe_bm PySem.F.plainAttrs_list PySem.F.slot_list_insert PySem.F.type_list_insert mt_insert (pv 12) (pa_cons (pv 6) (pa_cons (pv 9) pa_nil))))
  (pss_cons (ps_asg (pe_cal C_stepped (by first | exact hr | exact hr.mono (by decide)) (by rfl) pass0 (pa_cons (pv 0) (pa_cons (pv 2) (pa_cons (pv 5) (pa_cons (pv 12) pa_nil))))) (kg_tup K (n := 2) rfl (pgs_cons (pg_name (i := 13) sc_moves_of.nd rfl (by first | exact .inl rfl | exact .inr rfl)) (pgs_cons (pg_name (i := 14) sc_moves_of.nd rfl (by first | exact .inl rfl | exact .inr rfl)) pgs_nil))))
  (pss_one (ps_expr (pe_bm PySem.F.plainAttrs_list PySem.F.slot_list_append PySem.F.type_list_append mt_append (pv 8) (pa_cons (pe_tup (pa_cons (kn_get P w (hu9 hr) (pv 4) (pv 13) (fun _ _ => rfl)) (pa_cons (pv 14) pa_nil))) pa_nil))))))))
  (pss_one (ps_expr (pe_bm PySem.F.plainAttrs_list PySem.F.slot_list_append PySem.F.type_list_append mt_append (pv 3) (pa_cons (pv 8) pa_nil)))))))
  (pss_one (ps_ret (pv 3)))))), ?_⟩
    refine ⟨_, rfl, v, m, rfl, hM, ok.n4, fun c hc => ⟨(ok.cv c hc).first, (ok.cv c hc).last⟩, fun aw as H0 ex0 hW hd => ?_⟩
    refine ⟨by simp, fun fnd hf => ⟨_, _, rfl, ?_⟩⟩
    have exf := Ex.new (o := .lst []) hf
    have exF := ex0.newT (o := .lst []) hf
    have hff : upd H0 fnd (.lst []) fnd = some (.lst []) := upd_same
    generalize upd H0 fnd (.lst []) = H1 at exf exF hff
    -- numbers
    have hx1 := exF _ _ hxs
    refine ⟨_, rfl, a, xs, rfl, .of hx1, fun nb hnb => ?_⟩
    refine dcN_it (walk_enum (xs := xs)) (fun i H' => Ex H1 H' ∧ DN P w H' nb (numK ss vN i)) ⟨Ex.new hnb, dn_new upd_same⟩ (fun i H' _ hP => .of (hP.1 _ _ hx1)) (fun i x H2 H3 hi hP hy => ?_) (fun H2 hP => ?_)
    · obtain ⟨T1, y1, y2, rfl, nT, rfl, e1, e2⟩ := hy
      cases e1
      replace e2 : xs[i]? = some y2 := e2
      obtain ⟨ex2, hdn⟩ := hP
      have exT := Ex.new (o := .tup [.int (i : Nat), y2]) nT
      have hTT : upd H2 T1 (.tup [.int (i : Nat), y2]) T1 = some (.tup [.int (i : Nat), y2]) := upd_same
      generalize upd H2 T1 (.tup [.int (i : Nat), y2]) = H3 at exT hTT
      have ex3 := ex2.trans exT
      obtain ⟨e, he, re⟩ := rds_at (rxs.ex (exF.trans ex3)) e2
      obtain ⟨pe, u, b, rfl, hpe, ru, hb⟩ := re.ent
      obtain ⟨bk, rfl, isk⟩ := ru.key
      have hse : ss.getD i [] = e.1 := getD_at (by rw [← hss, List.getElem?_map, he]; rfl)
      refine ⟨T1, _, rfl, .of hTT, rfl, _, _, rfl, _, _, rfl, rfl, rfl, ?_⟩
      refine ⟨_, rfl, pe, _, _, _, rfl, rfl, .of hpe, rfl, _, rfl, _, bk, nkS e.1, isk, hdn.ex exT, by rw [numK_len]; simp [sizeLine]; omega, fun H6 k6 d6 => ⟨ex3.at hnb k6, ?_⟩⟩
      rw [← hse, numK_put hnd (by omega)] at d6
      exact d6
    · obtain ⟨ex2, hdn⟩ := hP
      have ex02 := exF.trans ex2
      have hff2 := ex2 _ _ hff
      -- the steps
      refine ⟨_, rfl, _, rfl, a, xs, rfl, .inl (.of (ex2 _ _ hx1)), v, m, order.length, by rw [← lx]; rfl, hM.ex ex02, ok, by omega, fun ls sx H3 hls ex3 hls3 rsx => ?_⟩
      have hsl := rsx.length
      rw [List.length_map] at hsl
      have hdn3 := hdn.ex ex3
      have hff3 := ex3 _ _ hff2
      have lnf : ls ≠ fnd := fun e => by rw [e, hff2] at hls; cases hls
      have ex13 := ex2.trans ex3
      have ex03 := exf.trans ex13
      rw [lx, ← lss] at hdn3
      have hsteps : (stepsO m.ar order.length).length ≤ 100000 := by
        have h1 := stepsO_len (ar := m.ar) (many := order.length) m.ar.length
        have h2 : m.ar.length * (2 * order.length + 1) ≤ 6 * (2 * order.length + 1) := Nat.mul_le_mul_right _ ok.a6
        unfold stepsO
        omega
      refine ⟨ls, rfl, ⟨sx, .of hls3⟩, ?_⟩
      refine for_it (walk_list (xs := sx)) (fun i σ H' => (∃ x5 x6 x7 x8 x9 x10 x11 x12 x13 x14 x15 x16, σ = [some v, some (.ref a), some (.ref aw), some (.ref fnd), some (.ref nb), x5, x6, x7, x8, x9, x10, x11, x12, x13, x14, x15, x16]) ∧
        Ex H0 H' ∧ DN P w H' nb (numK ss vN ss.length) ∧ H' ls = some (.lst sx) ∧ RDs H' sx ((stepsO m.ar order.length).map dSto) ∧
        ∃ bs : List Addr, H' fnd = some (.lst (bs.map V.ref)) ∧ Paired (fun b row => b ≠ fnd ∧ ∃ xs, H' b = some (.lst xs) ∧ RDs H' xs (row.map dMv)) bs ((movesF m ss).take i)) ⟨⟨_, _, _, _, _, _, _, _, _, _, _, _, rfl⟩, ex03, hdn3, hls3, rsx, [], hff3, .nil⟩ (fun i σ H' _ hP => .of hP.2.2.2.1) (fun i x σ _ H4 hi hP hy => ?_) (fun σ H4 hP => ?_)
      · obtain ⟨rfl, hx⟩ := hy
        obtain ⟨⟨x5, x6, x7, x8, x9, x10, x11, x12, x13, x14, x15, x16, rfl⟩, ex4, hdn4, hls4, rsx4, bs, hf4, rbs⟩ := hP
        obtain ⟨st, hst, rst⟩ := rds_at rsx4 hx
        obtain ⟨pst, pb, rfl, hpst, hpb⟩ := rst.sto
        have hst2 : st ∈ stepsO m.ar ss.length := by rw [lss]; exact List.mem_of_getElem? hst
        have hmv : (movesF m ss)[i]? = some (ss.map (mv1 m ss st)) := by
          unfold movesF
          rw [List.getElem?_map, lss, hst]
          rfl
        refine ⟨pst, _, rfl, .of hpst, rfl, _, _, rfl, _, _, rfl, _, _, rfl, rfl, ?_⟩
        -- row = []
        refine ⟨by simp, fun rw_ hrw => ?_⟩
        have exr := Ex.new (o := .lst []) hrw
        have hrr : upd H4 rw_ (.lst []) rw_ = some (.lst []) := upd_same
        have hx4 : H4 a = some (.lst xs) := ex4 _ _ (ex0 _ _ hxs)
        refine ⟨_, rfl, a, rfl, ⟨xs, .of (exr _ _ hx4)⟩, ?_⟩
        generalize upd H4 rw_ (.lst []) = H5 at exr hrr
        refine for_it (walk_list (xs := xs)) (fun j σ H' => (∃ x9 x10 x11 x12 x13 x14 x15 x16, σ = [some v, some (.ref a), some (.ref aw), some (.ref fnd), some (.ref nb), some (vN st.1), some (vN st.2.1), some (.ref pb), some (.ref rw_), x9, x10, x11, x12, x13, x14, x15, x16]) ∧
          Ex H4 H' ∧ ∃ ys, H' rw_ = some (.lst ys) ∧ RDs H' ys (((ss.map (mv1 m ss st)).take j).map dMv)) ⟨⟨_, _, _, _, _, _, _, _, rfl⟩, exr, [], hrr, .nil⟩ (fun j σ H' _ hP => .of (hP.2.1 _ _ hx4)) (fun j x σ _ H6 hj hP hy => ?_) (fun σ H6 hP => ?_)
        · obtain ⟨rfl, hxj⟩ := hy
          obtain ⟨⟨x9, x10, x11, x12, x13, x14, x15, x16, rfl⟩, ex6, ys, hys, rys⟩ := hP
          have ex06 := ex4.trans ex6
          have exH6 := ex0.trans ex06
          have rx6 := rxs.ex exH6
          have hx6 := exH6 _ _ hxs
          obtain ⟨e, he, re⟩ := rds_at rx6 hxj
          obtain ⟨pe, u, b, rfl, hpe, ru, hb⟩ := re.ent
          have hse : ss[j]? = some e.1 := by rw [← hss, List.getElem?_map, he]; rfl
          have ylen := rys.length
          rw [List.length_map, List.length_take, List.length_map] at ylen
          refine ⟨pe, _, rfl, .of hpe, rfl, _, _, rfl, _, _, rfl, _, _, rfl, rfl, ?_⟩
          -- arguments
          refine ⟨_, rfl, pb, rfl, ⟨_, .of (ex6 _ _ hpb)⟩, fun ag hag => ?_⟩
          have hsib : ∀ k ∈ st.2.2, k < order.length := by
            intro k hk
            rw [lss, stepsO_iff] at hst2
            obtain ⟨op, ar1, _, h2⟩ := hst2
            rcases stp1_mem h2 with ⟨_, rfl⟩ | ⟨_, pl, n, _, hn, rfl⟩
            · cases hk
            · rw [List.mem_singleton.mp hk]
              exact hn
          have hsl2 : st.2.2.length ≤ 1 ∧ st.2.1 ≤ 1 := by
            rw [lss, stepsO_iff] at hst2
            obtain ⟨op, ar1, _, h2⟩ := hst2
            rcases stp1_mem h2 with ⟨_, rfl⟩ | ⟨_, pl, n, hpl, _, rfl⟩
            · exact ⟨by simp, by simp⟩
            · exact ⟨by simp, by simp; omega⟩
          refine lc_it (walk_tup (xs := st.2.2.map vN)) (fun k H' => Ex H6 H' ∧ ∃ zs, H' ag = some (.lst zs) ∧ RDs H' zs (((st.2.2.map fun k => ss.getD k []).take k).map dS)) ⟨Ex.new hag, [], upd_same, .nil⟩ (fun k H' _ hP => .of (hP.1 _ _ (ex6 _ _ hpb))) (fun k x _ H7 hk hP hy => ?_) (fun H7 hP => ?_)
          · obtain ⟨rfl, hxk⟩ := hy
            obtain ⟨ex7, zs, hzs, rzs⟩ := hP
            rw [List.length_map] at hk
            rw [List.getElem?_map, List.getElem?_eq_getElem hk] at hxk
            cases hxk
            have hk2 := hsib st.2.2[k] (List.getElem_mem hk)
            obtain ⟨x2, hx2, rx2⟩ := (rx6.ex ex7).at (i := st.2.2[k]) (d := dEnt order[st.2.2[k]]) (by rw [List.getElem?_map, List.getElem?_eq_getElem hk2]; rfl)
            obtain ⟨p2, u2, b2, rfl, hp2, ru2, hb2⟩ := rx2.ent
            have hse2 : ss.getD st.2.2[k] [] = order[st.2.2[k]].1 := getD_at (by rw [← hss, List.getElem?_map, List.getElem?_eq_getElem hk2]; rfl)
            have tu := Tu.lst (o := .lst (zs ++ [u2])) hzs
            refine ⟨rfl, _, rfl, _, rfl, a, xs, _, _, rfl, rfl, .of (ex7 _ _ hx6), atI_nat hx2, p2, _, _, _, rfl, rfl, .of hp2, rfl, zs, hzs, by rw [rzs.length, List.length_map, List.length_take, List.length_map]; simp [sizeLine]; omega, ex7.mut hag, _, upd_same, ?_⟩
            rw [List.take_succ, List.getElem?_map, List.getElem?_eq_getElem hk, List.map_append]
            refine (rzs.tu tu).app ?_
            show RDs _ _ [dS (ss.getD st.2.2[k] [])]
            rw [hse2]
            exact .cons (ru2.tu tu) .nil
          · obtain ⟨ex7, zs, hzs, rzs⟩ := hP
            rw [List.take_of_length_le (by simp)] at rzs
            have zl := rzs.length
            rw [List.length_map, List.length_map] at zl
            -- insert
            refine ⟨_, rfl, .inl ⟨rfl, zs, .of hzs⟩, ?_⟩
            refine ⟨_, rfl, _, rfl, ag, zs, _, _, rfl, rfl, hzs, by simp [sizeLine]; omega, by omega, by omega, ?_⟩
            have tu := Tu.lst (o := .lst (zs.take st.2.1 ++ [u] ++ zs.drop st.2.1)) hzs
            have ex8 := ex7.mut (o := .lst (zs.take st.2.1 ++ [u] ++ zs.drop st.2.1)) hag
            have rag : RDs (upd H7 ag (.lst (zs.take st.2.1 ++ [u] ++ zs.drop st.2.1))) (zs.take st.2.1 ++ [u] ++ zs.drop st.2.1) ((argsO ss st e.1).map dS) := by
              unfold argsO
              rw [List.map_append, List.map_append, List.map_take, List.map_drop]
              exact (((rzs.tu tu).take _).app (.cons ((ru.ex ex7).tu tu) .nil)).app ((rzs.tu tu).drop _)
            have hagg : upd H7 ag (.lst (zs.take st.2.1 ++ [u] ++ zs.drop st.2.1)) ag = some (.lst (zs.take st.2.1 ++ [u] ++ zs.drop st.2.1)) := upd_same
            rw [Int.toNat_natCast]
            generalize upd H7 ag (.lst (zs.take st.2.1 ++ [u] ++ zs.drop st.2.1)) = H8 at tu ex8 rag hagg
            have exH8 := exH6.trans ex8
            refine ⟨_, rfl, _, rfl, _, rfl, _, rfl, v, .ref aw, m, st.1, ag, _, argsO ss st e.1, rfl, hM.ex exH8, ok, ⟨aw, as, rfl, hW.ex (ex06.trans ex8)⟩, .of hagg, rag, fun r hr => ?_, fun v' H9 ex9 hv' => ?_⟩
            · unfold argsO at hr
              have mem : ∀ k ∈ st.2.2, (ss.getD k []).length = m.n := fun k hk => by
                have h1 := hsib k hk
                rw [getD_at (List.getElem?_eq_getElem (show k < ss.length by omega))]
                exact hsn _ (List.getElem_mem _)
              rcases List.mem_append.mp hr with hr | hr
              · rcases List.mem_append.mp hr with hr | hr
                · obtain ⟨k, hk, rfl⟩ := List.mem_map.mp (List.mem_of_mem_take hr)
                  exact mem k hk
                · rw [List.mem_singleton.mp hr]
                  exact hln e (List.mem_of_getElem? he)
              · obtain ⟨k, hk, rfl⟩ := List.mem_map.mp (List.mem_of_mem_drop hr)
                exact mem k hk
            · have hcl1 := hcl st hst2 e.1 (List.mem_of_getElem? hse)
              obtain ⟨pv, vs, rfl, hpv, rvs⟩ := hv'.inv_tup
              cases rvs with
              | cons h1 rvs =>
                cases rvs with
                | cons h2 rvs =>
                  cases rvs
                  cases h2.inv_o
                  obtain ⟨bk, rfl, isk⟩ := h1.key
                  refine ⟨pv, _, rfl, .of hpv, rfl, _, _, rfl, _, _, rfl, rfl, ?_⟩
                  have ex69 := ex8.trans ex9
                  have hys9 := ex69 _ _ hys
                  refine ⟨_, rfl, .inl ⟨rfl, ys, .of hys9⟩, ?_⟩
                  refine ⟨_, rfl, _, rfl, nb, bk, _, _, _, rfl, isk, hdn4.ex (ex6.trans ex69), numK_idx hnd hcl1, ?_⟩
                  refine ⟨_, rfl, by simp [sizeLine], fun z hz => ?_⟩
                  have exz := Ex.new (o := .tup [vN (ss.idxOf (relS (jrow m st.1 (argsO ss st e.1)))), vO (baseF (jrow m st.1 (argsO ss st e.1)))]) hz
                  have hys10 := exz _ _ hys9
                  have tu := Tu.lst (o := .lst (ys ++ [.ref z])) hys10
                  refine ⟨rw_, ys, _, rfl, rfl, hys10, by simp [sizeLine]; omega, ⟨_, _, _, _, _, _, _, _, rfl⟩, ((ex6.trans ex69).trans exz).mut hrw, _, upd_same, ?_⟩
                  rw [List.take_succ, List.getElem?_map, hse, List.map_append]
                  exact ((rys.ex (ex69.trans exz)).tu tu).app (.cons ((rd_mov (e := mv1 m ss st e.1) upd_same).tu tu) .nil)
        · obtain ⟨⟨x9, x10, x11, x12, x13, x14, x15, x16, rfl⟩, ex6, ys, hys, rys⟩ := hP
          rw [List.take_of_length_le (by rw [List.length_map]; omega)] at rys
          have hf6 := ex6 _ _ hf4
          have hls6 := ex6 _ _ hls4
          have bl := rbs.length
          rw [List.length_take, movesF, List.length_map, lss] at bl
          refine ⟨_, rfl, .inl ⟨rfl, _, .of hf6⟩, ?_⟩
          refine ⟨_, rfl, fnd, _, _, rfl, rfl, hf6, by rw [List.length_map]; simp [sizeLine]; omega, ⟨_, _, _, _, _, _, _, _, _, _, _, _, rfl⟩, (ex4.trans ex6).mut hf, (hdn4.ex ex6).putL hf6, ?_, ?_, bs ++ [rw_], ?_, ?_⟩
          · rw [upd_ne lnf]
            exact hls6
          · exact (rsx4.ex ex6).tu (Tu.lst hf6)
          · rw [upd_same, List.map_append]
            rfl
          · have tu := Tu.lst (o := .lst (bs.map V.ref ++ [.ref rw_])) hf6
            have nrf : rw_ ≠ fnd := fun e => by rw [e, hf4] at hrw; cases hrw
            rw [List.take_succ, hmv]
            refine pair_snoc' (pair_mapP rbs fun b row ⟨n1, zs, g1, g2⟩ => ⟨n1, zs, by rw [upd_ne n1]; exact ex6 _ _ g1, (g2.ex ex6).tu tu⟩) ⟨nrf, ys, by rw [upd_ne nrf]; exact hys, rys.tu tu⟩
      · obtain ⟨⟨x5, x6, x7, x8, x9, x10, x11, x12, x13, x14, x15, x16, rfl⟩, ex4, hdn4, hls4, rsx4, bs, hf4, rbs⟩ := hP
        rw [List.take_of_length_le (by rw [movesF, List.length_map, lss]; omega)] at rbs
        exact ⟨_, rfl, q fnd H4 (ex0.trans ex4) ⟨bs, hf4, pair_mapP rbs fun b row h => h.2⟩⟩
end
end Cp
end

section
set_option Elab.async false
set_option linter.all false
/-! first steps, rests -/
namespace Cp
theorem nodup_le {α : Type} [DecidableEq α] : ∀ {l l' : List α}, l.Nodup → (∀ x ∈ l, x ∈ l') → l.length ≤ l'.length
  | [], _, _, _ => Nat.zero_le _
  | a :: l, l', h, hs => by
    have ha := hs a (List.mem_cons_self ..)
    have h2 : l.length ≤ (l'.erase a).length := nodup_le (List.nodup_cons.mp h).2 fun x hx => by
      refine (List.mem_erase_of_ne ?_).mpr (hs x (List.mem_cons_of_mem _ hx))
      rintro rfl
      exact (List.nodup_cons.mp h).1 hx
    rw [List.length_erase_of_mem ha] at h2
    have : 0 < l'.length := List.length_pos_of_mem ha
    rw [List.length_cons]
    omega
abbrev Fs := List (Nat × Option Nat)
def inF (fs : Fs) (i : Nat) : Bool := fs.any fun p => decide (p.1 = i)
def goalO (ss : List Row) (i : Nat) : Option Int := (ss.getD i []).getD 0 none
def mvAt (mv : List (List Mv)) (s i : Nat) : Mv := (mv.getD s []).getD i (0, none)
def fs0 (ss : List Row) (n : Nat) : Fs := (List.range n).filterMap fun i => if (goalO ss i).isSome then some (i, none) else none
/-- the steps that lead from i to fs -/
def stL (mv : List (List Mv)) (fs : Fs) (i : Nat) (k : Nat) : List Nat := (List.range k).filter fun s => inF fs (mvAt mv s i).1
def fsStep (mv : List (List Mv)) (fs : Fs) (i : Nat) : Fs := if inF fs i then [] else match stL mv fs i mv.length with | [] => [] | s :: _ => [(i, some s)]
def fsL (mv : List (List Mv)) (fs : Fs) (k : Nat) : Fs := (List.range k).flatMap (fsStep mv fs)
/-- after k turns -/
def fsK (ss : List Row) (mv : List (List Mv)) (n : Nat) : Nat → Fs
  | 0 => fs0 ss n
  | k + 1 => fsK ss mv n k ++ fsL mv (fsK ss mv n k) n
structure FOk (n : Nat) (fs : Fs) : Prop where
  nd : (fs.map (·.1)).Nodup
  lt : ∀ p ∈ fs, p.1 < n
theorem FOk.len {n : Nat} {fs : Fs} (h : FOk n fs) : fs.length ≤ n := by
  have := nodup_le (l' := List.range n) h.nd fun x hx => by
    obtain ⟨p, hp, rfl⟩ := List.mem_map.mp hx
    exact List.mem_range.mpr (h.lt p hp)
  rwa [List.length_map, List.length_range] at this
theorem inF_iff {fs : Fs} {i : Nat} : inF fs i = true ↔ i ∈ fs.map (·.1) := by
  unfold inF
  rw [List.any_eq_true]
  simp [List.mem_map]
theorem fs0_ok (ss : List Row) (n : Nat) : FOk n (fs0 ss n) := by
  have key : ∀ n, ((fs0 ss n).map (·.1)).Nodup ∧ ∀ p ∈ fs0 ss n, p.1 < n := by
    intro n
    induction n with
    | zero => exact ⟨by simp [fs0], by simp [fs0]⟩
    | succ n ih =>
      have e : fs0 ss (n + 1) = fs0 ss n ++ (if (goalO ss n).isSome then [(n, none)] else []) := by
        unfold fs0
        rw [List.range_succ, List.filterMap_append]
        congr 1
        split <;> simp_all
      rw [e]
      refine ⟨?_, fun p hp => ?_⟩
      · rw [List.map_append, List.nodup_append]
        refine ⟨ih.1, by split <;> simp, fun x hx y hy => ?_⟩
        obtain ⟨p, hp, rfl⟩ := List.mem_map.mp hx
        have := ih.2 p hp
        split at hy
        · simp at hy
          omega
        · simp at hy
      · rcases List.mem_append.mp hp with hp | hp
        · have := ih.2 p hp
          omega
        · split at hp
          · simp at hp
            rw [hp]
            exact Nat.lt_succ_self n
          · simp at hp
  exact ⟨(key n).1, (key n).2⟩
theorem fsStep_mem {mv : List (List Mv)} {fs : Fs} {i : Nat} {p : Nat × Option Nat} (h : p ∈ fsStep mv fs i) : p.1 = i ∧ inF fs i = false ∧ ∃ s, p.2 = some s ∧ (stL mv fs i mv.length).head? = some s := by
  unfold fsStep at h
  split at h
  · cases h
  · split at h
    · cases h
    · next s r e =>
      rw [List.mem_singleton.mp h]
      exact ⟨rfl, by simp_all, s, rfl, by rw [e]; rfl⟩
theorem fsL_ok (mv : List (List Mv)) {fs : Fs} {n : Nat} (h : FOk n fs) : ∀ k, k ≤ n → FOk n (fs ++ fsL mv fs k)
  | 0, _ => by simpa [fsL] using h
  | k + 1, hk => by
    have ih := fsL_ok mv h k (by omega)
    have e : fsL mv fs (k + 1) = fsL mv fs k ++ fsStep mv fs k := by
      unfold fsL
      rw [List.range_succ, List.flatMap_append]
      simp
    have lt : ∀ p ∈ fsL mv fs k, p.1 < k := by
      intro p hp
      unfold fsL at hp
      rw [List.mem_flatMap] at hp
      obtain ⟨j, hj, hp⟩ := hp
      rw [List.mem_range] at hj
      rw [(fsStep_mem hp).1]
      exact hj
    rw [e, ← List.append_assoc]
    refine ⟨?_, fun p hp => ?_⟩
    · rw [List.map_append, List.nodup_append]
      refine ⟨ih.nd, ?_, fun x hx y hy => ?_⟩
      · unfold fsStep
        split
        · simp
        · split <;> simp
      · obtain ⟨q, hq, rfl⟩ := List.mem_map.mp hy
        obtain ⟨h1, h2, _⟩ := fsStep_mem hq
        obtain ⟨p, hp, rfl⟩ := List.mem_map.mp hx
        intro e2
        rcases List.mem_append.mp hp with hp | hp
        · have : inF fs k = true := inF_iff.mpr (by rw [← h1, ← e2]; exact List.mem_map.mpr ⟨p, hp, rfl⟩)
          rw [h2] at this
          cases this
        · have := lt p hp
          omega
    · rcases List.mem_append.mp hp with hp | hp
      · exact ih.lt p hp
      · rw [(fsStep_mem hp).1]
        omega
theorem fsK_ok (ss : List Row) (mv : List (List Mv)) (n : Nat) : ∀ k, FOk n (fsK ss mv n k)
  | 0 => fs0_ok ss n
  | k + 1 => fsL_ok mv (fsK_ok ss mv n k) n (Nat.le_refl _)
end Cp
end

section
set_option Elab.async false
set_option linter.all false
/-! rests -/
namespace Cp
def fget (fs : Fs) (i : Nat) : Option (Option Nat) := (fs.find? fun p => decide (p.1 = i)).map (·.2)
inductive RestIs (ss : List Row) (mv : List (List Mv)) (fs : Fs) : Nat → Nat → Int → Prop where
  | goal {i : Nat} {g : Int} : fget fs i = some none → goalO ss i = some g → RestIs ss mv fs 0 i g
  | step {i s d to : Nat} {w r : Int} : fget fs i = some (some s) → mvAt mv s i = (to, some w) → RestIs ss mv fs d to r → RestIs ss mv fs (d + 1) i (w + r)
/-- the places are there -/
structure FsOk (n L : Nat) (fs : Fs) : Prop where
  lt : ∀ p ∈ fs, p.1 < n
  st : ∀ p ∈ fs, ∀ s, p.2 = some s → s < L
theorem fget_mem {fs : Fs} {i : Nat} {o : Option Nat} (h : fget fs i = some o) : (i, o) ∈ fs := by
  unfold fget at h
  rw [Option.map_eq_some_iff] at h
  obtain ⟨p, h1, h2⟩ := h
  have h3 := List.find?_some h1
  have h4 := List.mem_of_find?_eq_some h1
  simp at h3
  have : p = (i, o) := by rw [← h3, ← h2]
  rw [← this]
  exact h4
theorem inF_fget (fs : Fs) (i : Nat) : inF fs i = (fget fs i).isSome := by
  unfold fget
  rw [Option.isSome_map]
  unfold inF
  induction fs with
  | nil => rfl
  | cons p fs ih =>
    rw [List.any_cons, List.find?_cons]
    by_cases e : p.1 = i
    · simp [e]
    · simp [e]
      simpa using ih
/-! marks -/
abbrev Rs := List (Nat × Int)
def rget (rs : Rs) (i : Nat) : Option Int := (rs.find? fun p => decide (p.1 = i)).map (·.2)
/-- a mark's parts: what is left of the goal's price, and a part and what is left for each step -/
abbrev Mark := Option (Option Int × List (Nat × Option Int))
def moreF (rs : Rs) (r : Int) (to : Mv) : Option Int := match rget rs to.1 with
  | none => none
  | some r2 => to.2.map fun w => w + r2 - r
def markF (ss : List Row) (mv : List (List Mv)) (rs : Rs) (parts : List Nat) (i : Nat) : Mark := match rget rs i with
  | none => none
  | some r => some ((goalO ss i).map (· - r), (List.range mv.length).map fun s => (parts.getD (mvAt mv s i).1 0, moreF rs r (mvAt mv s i)))
def marksF (ss : List Row) (mv : List (List Mv)) (rs : Rs) (parts : List Nat) (n : Nat) : List Mark := (List.range n).map (markF ss mv rs parts)
/-- each once, in the order of coming -/
def onceF (ms : List Mark) : List Mark := ms.foldl (fun l x => if x ∈ l then l else l ++ [x]) []
def partsK (ss : List Row) (mv : List (List Mv)) (rs : Rs) (n : Nat) : Nat → List Nat
  | 0 => List.replicate n 0
  | k + 1 => (marksF ss mv rs (partsK ss mv rs n k) n).map fun x => (onceF (marksF ss mv rs (partsK ss mv rs n k) n)).idxOf x
def cntK (ss : List Row) (mv : List (List Mv)) (rs : Rs) (n : Nat) : Nat → Nat
  | 0 => 0
  | k + 1 => (onceF (marksF ss mv rs (partsK ss mv rs n k) n)).length
end Cp
end

section
set_option Elab.async false
set_option linter.all false
set_option maxRecDepth 100000
set_option maxHeartbeats 4000000
namespace Cp
open PySem PySem.Spec PyProof.Rows L2
def vF : Option Nat → V
  | none => .non
  | some s => vN s
def kvF (fs : Fs) : List (Key × V) := fs.map fun p => (Sum.inl (p.1 : Int), vF p.2)
theorem kvF_len (fs : Fs) : (kvF fs).length = fs.length := by unfold kvF; simp
theorem kvF_app (fs gs : Fs) : kvF (fs ++ gs) = kvF fs ++ kvF gs := by unfold kvF; simp
theorem kvF_any (fs : Fs) (i : Nat) : ((kvF fs).any fun kv => decide (kv.1 = Sum.inl (i : Int))) = inF fs i := by
  unfold kvF inF
  rw [List.any_map]
  congr 1
  funext p
  simp
  omega
theorem kvF_put {fs : Fs} {i : Nat} {o : Option Nat} (h : inF fs i = false) : putK (kvF fs) (Sum.inl (i : Int)) (vF o) = kvF (fs ++ [(i, o)]) := by
  unfold putK
  rw [if_neg (by rw [kvF_any, h]; exact Bool.false_ne_true), kvF_app]
  rfl
theorem kvF_val : ∀ (fs : Fs) (i : Nat), valV (kvF fs) (Sum.inl (i : Int)) = (fs.find? fun p => decide (p.1 = i)).map fun p => vF p.2
  | [], i => rfl
  | p :: fs, i => by
    have ih := kvF_val fs i
    unfold valV kvF at ih ⊢
    rw [List.map_cons, List.find?_cons, List.find?_cons]
    by_cases e : p.1 = i
    · simp [e]
    · have : ¬ (Sum.inl (p.1 : Int) : Key) = Sum.inl (i : Int) := by
        intro z
        injection z with z
        omega
      simp only [this, e, decide_false]
      exact ih
theorem inF_find (fs : Fs) (i : Nat) : inF fs i = (fs.find? fun p => decide (p.1 = i)).isSome := by
  unfold inF
  induction fs with
  | nil => rfl
  | cons p fs ih =>
    rw [List.any_cons, List.find?_cons]
    by_cases e : p.1 = i
    · simp [e]
    · simp [e]
      simpa using ih
theorem kvF_some (fs : Fs) (i : Nat) : (valV (kvF fs) (Sum.inl (i : Int))).isSome = inF fs i := by
  rw [kvF_val, Option.isSome_map, inF_find]
theorem dget_F {H : Hp} {a : Addr} {fs : Fs} (h : Rd H a (.dK (kvF fs))) (i : Nat) : DGet H a (vN i) (valV (kvF fs) (Sum.inl (i : Int))) := .inl ⟨_, _, h, rfl, rfl⟩
theorem kvF_merge {fs : Fs} : ∀ {gs : Fs}, ((fs ++ gs).map (·.1)).Nodup → mergeK (kvF fs) (kvF gs) = kvF (fs ++ gs)
  | [], _ => by simp [kvF, mergeK]
  | p :: gs, h => by
    have e : fs ++ p :: gs = (fs ++ [p]) ++ gs := by simp
    have hp : inF fs p.1 = false := by
      cases q : inF fs p.1 with
      | false => rfl
      | true =>
        have h1 := inF_iff.mp q
        rw [List.map_append, List.nodup_append] at h
        exact absurd rfl (h.2.2 _ h1 _ (by simp))
    have ih := kvF_merge (fs := fs ++ [p]) (gs := gs) (by rw [← e]; exact h)
    rw [e, ← ih]
    show mergeK (putK (kvF fs) (Sum.inl (p.1 : Int)) (vF p.2)) (kvF gs) = _
    rw [kvF_put hp]
theorem nats_ne (ns : List Nat) : PyData.eqv (.list (ns.map dN)) (.list []) = ns.isEmpty := by
  rw [PyData.eqv]
  cases ns with
  | nil => simp [PyData.eqvAll]
  | cons i r => simp [PyData.eqvAll]
theorem nats_shapedL (ns : List Nat) : SeqAt.shaped (.list (ns.map dN)) = true := by
  show ((PyData.list (ns.map dN)).canLay0 && decide ((PyData.list (ns.map dN)).depth ≤ 64)) = true
  rw [PyData.canLay0, nats_lay, PyData.depth, nats_depth]
  rfl
theorem stL_succ (mv : List (List Mv)) (fs : Fs) (i k : Nat) : stL mv fs i (k + 1) = stL mv fs i k ++ (if inF fs (mvAt mv k i).1 then [k] else []) := by
  unfold stL
  rw [List.range_succ, List.filter_append]
  congr 1
  rw [List.filter_cons]
  rfl
theorem fsL_succ (mv : List (List Mv)) (fs : Fs) (k : Nat) : fsL mv fs (k + 1) = fsL mv fs k ++ fsStep mv fs k := by
  unfold fsL
  rw [List.range_succ, List.flatMap_append]
  simp
section
variable {P : Program} {w : World} {K : PySem.W.Frag} {mg : Str → Option Value} {base : Heap}
/-! first_steps -/
def sp_first_steps : Sp := fun vs H Q _ => ∃ (a b : Addr) (order : List Ent) (mv : List (List Mv)), vs = [.ref a, .ref b] ∧ OrV H a order ∧ MvV H b mv ∧ (∀ e ∈ order, 1 ≤ e.1.length) ∧ (∀ r ∈ mv, r.length = order.length) ∧ order.length ≤ 1000 ∧ mv.length ≤ 100000 ∧
  ∀ (k : Nat) (d : Addr) (H' : Hp), Ex H H' → fsL mv (fsK (order.map (·.1)) mv order.length k) order.length = [] → H' d = some (.dK (kvF (fsK (order.map (·.1)) mv order.length k))) → Q (.ref d) H'
theorem ok_first_steps (T : Tx mg) (D : Def K mg "first_steps" s_first_steps) : Cal P w K mg base CX0 "first_steps" 1 ["order", "moves"] sp_first_steps := by
  obtain ⟨f, fd, F, hm⟩ := D.ex
  refine ⟨f, fd, F.ok sc_first_steps (fun vs H Q E h => ?_) (fun cdv A outer s H vs Q E hr h => ?_), hm, F.kp, F.binds fun _ _ _ _ _ _ us hl => match us, hl with | [_, _], _ => rfl⟩
  · obtain ⟨a, b, order, mv, rfl, _⟩ := h
    rfl
  · obtain ⟨a, b, order, mv, rfl, hO, hV, hl1, hmr, h1000, hmz, q⟩ := h
    obtain ⟨xs, hxs, rxs⟩ := hO
    obtain ⟨bs, hbs, rbs⟩ := hV
    have lx : xs.length = order.length := by rw [rxs.length, List.length_map]
    have lb : bs.length = mv.length := rbs.length
    generalize hss : order.map (·.1) = ss at *
    have lss : ss.length = order.length := by rw [← hss, List.length_map]
    generalize hn : order.length = n at *
    refine ⟨_, (pss_cons (ps_set (i := 2) sc_first_steps.nd rfl (by first | exact .inl rfl | exact .inr rfl) (pe_dc (own := [("number", 5), ("one", 7)])  rfl sc_first_steps.nd (pi_enum (by rfl) T.enumerate (pa_cons (pv 0) pa_nil)) (blkOk_by (own := [("number", 5), ("one", 7)]) (N := ["order", "moves", "found", "grown", "later", "number", "some", "one", "step", "row"]) (sc := defScope s_first_steps) (by decide +kernel)) (fun _ _ _ _ _ => (kg_tup K (n := 2) rfl (pgs_cons (pg_name (i := 5) sc_first_steps.nd rfl (by first | exact .inl rfl | exact .inr rfl)) (pgs_cons (pg_name (i := 7) sc_first_steps.nd rfl (by first | exact .inl rfl | exact .inr rfl)) pgs_nil)))) (fun _ _ _ _ _ => (pts_one (pt_cmpR op_notN (pe_ix (kx_tup K) (pe_ix (kx_tup K) (pv 7) pe_int (fun _ _ => rfl)) (pe_cst T.cGOAL) (fun _ _ => rfl)) pe_non (nomark _)))) (fun _ _ _ _ _ => (pv 5)) (fun _ _ _ _ _ => pe_non)))
  (pss_cons (ps_set (i := 3) sc_first_steps.nd rfl (by first | exact .inl rfl | exact .inr rfl) pe_bl)
  (pss_cons (ps_while PassesOwn.never (pt_val (pv 3))
  (pss_cons (ps_set (i := 4) sc_first_steps.nd rfl (by first | exact .inl rfl | exact .inr rfl) pe_dnewK)
  (pss_cons (ps_for PassesOwn.never rfl (pi_range1 (by rfl) T.range (pa_cons (pe_callB (kc_len K) (by rfl) T.len boot_len (pa_cons (pv 0) pa_nil)) pa_nil)) (pg_name (i := 5) sc_first_steps.nd rfl (by first | exact .inl rfl | exact .inr rfl))
  (pss_cons (ps_setLc (i := 6) (own := [("step", 8), ("row", 9)]) rfl sc_first_steps.nd rfl rfl (sw_true rfl rfl rfl (by decide +kernel)) (pi_enum (by rfl) T.enumerate (pa_cons (pv 1) pa_nil)) (blkOk_by (own := [("step", 8), ("row", 9)]) (N := ["order", "moves", "found", "grown", "later", "number", "some", "one", "step", "row"]) (sc := defScope s_first_steps) (by decide +kernel)) (fun _ _ _ _ _ => (kg_tup K (n := 2) rfl (pgs_cons (pg_name (i := 8) sc_first_steps.nd rfl (by first | exact .inl rfl | exact .inr rfl)) (pgs_cons (pg_name (i := 9) sc_first_steps.nd rfl (by first | exact .inl rfl | exact .inr rfl)) pgs_nil)))) (fun _ _ _ _ _ => (pts_one (pt_cmp (pc_din (hu_of hr) (pe_ix (kx_tup K) (pe_ix (kx_list K) (pv 9) (pv 5) (fun _ _ => rfl)) pe_int (fun _ _ => rfl)) (pv 2)) (by rfl)))) (fun _ _ _ _ _ => (pv 8)))
  (pss_one (ps_if (PW.pt (pw_and (pt_cmp (pc_dnotin (hu_of hr) (pv 5) (pv 2)) (by rfl)) (pw_and1 (pt_cmpR (ko_ne K hr.units) (pv 6) (pe_lst pa_nil) (nomark _))))) (pss_one (ps_dput (hu_of hr) (pv 4) (pv 5) (pe_ix (kx_list K) (pv 6) pe_int (fun _ _ => rfl)) rfl)) pss_nil))))
  (pss_cons (ps_expr (pe_bm PySem.F.plainAttrs_dict PySem.F.slot_dict_update PySem.F.type_dict_update mt_update (pv 2) (pa_cons (pv 4) pa_nil)))
  (pss_one (ps_set (i := 3) sc_first_steps.nd rfl (by first | exact .inl rfl | exact .inr rfl) (pe_cmpR (op_ne_dK hr.units0) (pv 4) pe_dnewK (nomark _))))))))
  (pss_one (ps_ret (pv 2)))))), ?_⟩
    -- found = {number: None ..}
    refine ⟨_, rfl, a, xs, rfl, .of hxs, fun fd hfd => ?_⟩
    refine dc_it (walk_enum (xs := xs)) (fun i H' => Ex H H' ∧ H' fd = some (.dK (kvF (fs0 ss i)))) ⟨Ex.new hfd, upd_same⟩ (fun i H' _ hP => .of (hP.1 _ _ hxs)) (fun i x H2 H3 hi hP hy => ?_) (fun H2 hP => ?_)
    · obtain ⟨T1, y1, y2, rfl, nT, rfl, e1, e2⟩ := hy
      cases e1
      replace e2 : xs[i]? = some y2 := e2
      obtain ⟨ex2, hd2⟩ := hP
      have exT := Ex.new (o := .tup [.int (i : Nat), y2]) nT
      have hTT : upd H2 T1 (.tup [.int (i : Nat), y2]) T1 = some (.tup [.int (i : Nat), y2]) := upd_same
      generalize upd H2 T1 (.tup [.int (i : Nat), y2]) = H3 at exT hTT
      have ex3 := ex2.trans exT
      have hd3 := exT _ _ hd2
      obtain ⟨e, he, re⟩ := rds_at (rxs.ex ex3) e2
      obtain ⟨pe, u, b1, rfl, hpe, ru, hb1⟩ := re.ent
      obtain ⟨pu, rfl, hpu⟩ := ru.row
      have hse : ss.getD i [] = e.1 := getD_at (by rw [← hss, List.getElem?_map, he]; rfl)
      have h1 := hl1 e (List.mem_of_getElem? he)
      have hg : goalO ss i = e.1.getD 0 none := by unfold goalO; rw [hse]
      have e0 : fs0 ss (i + 1) = fs0 ss i ++ (if (goalO ss i).isSome then [(i, none)] else []) := by
        unfold fs0
        rw [List.range_succ, List.filterMap_append]
        congr 1
        split <;> simp_all
      refine ⟨T1, _, rfl, .of hTT, rfl, _, _, rfl, _, _, rfl, rfl, rfl, ?_⟩
      refine ⟨_, rfl, pe, _, _, _, rfl, rfl, .of hpe, rfl, pu, _, _, _, rfl, rfl, .of hpu, atI_nat (j := 0) (vO_at h1), rfl, _, rfl, ?_⟩
      rw [← hg]
      cases eg : goalO ss i with
      | none =>
        refine itF (by decide) ⟨ex3, ?_⟩
        rw [e0, eg]
        simpa using hd3
      | some g =>
        refine itT rfl ⟨_, rfl, kvF (fs0 ss i), Sum.inl (i : Int), rfl, hd3, ?_, ex3.mut hfd, ?_⟩
        · rw [kvF_len]
          have := (fs0_ok ss i).len
          simp [sizeLine]
          omega
        · rw [upd_same, e0, eg]
          have nin : inF (fs0 ss i) i = false := by
            cases q : inF (fs0 ss i) i with
            | false => rfl
            | true =>
              obtain ⟨p, hp, hpe⟩ := List.mem_map.mp (inF_iff.mp q)
              have := (fs0_ok ss i).lt p hp
              omega
          rw [show (V.non) = vF none from rfl, kvF_put nin]
          rfl
    · obtain ⟨ex2, hd2⟩ := hP
      rw [lx] at hd2
      have e0 : fs0 ss n = fsK ss mv n 0 := rfl
      rw [e0] at hd2
      refine ⟨fun m σ H' => ∃ (k : Nat) (g : Bool), (∃ x4 x5 x6 x7 x8 x9, σ = [some (.ref a), some (.ref b), some (.ref fd), some (.bl g), x4, x5, x6, x7, x8, x9]) ∧ Ex H H' ∧ H' fd = some (.dK (kvF (fsK ss mv n k))) ∧ (g = false → fsL mv (fsK ss mv n k) n = []) ∧ m = if g = true then n + 2 - (fsK ss mv n k).length else 1,
        ⟨_, 0, true, ⟨_, _, _, _, _, _, rfl⟩, ex2, hd2, fun z => (by cases z), rfl⟩, ?_⟩
      rintro m σ H3 ⟨k, g, ⟨x4, x5, x6, x7, x8, x9, rfl⟩, ex3, hd3, hg0, rfl⟩
      refine ⟨_, rfl, g, rfl, ?_⟩
      cases g with
      | false =>
        refine itF Bool.false_ne_true ?_
        exact ⟨_, rfl, q k fd H3 ex3 (hg0 rfl) hd3⟩
      | true =>
        refine itT rfl ?_
        have fok := fsK_ok ss mv n k
        have fok1 := fsK_ok ss mv n (k + 1)
        have fl1 := fok1.len
        have flk := fok.len
        generalize hfs : fsK ss mv n k = fs at *
        have hfs1 : fsK ss mv n (k + 1) = fs ++ fsL mv fs n := by rw [← hfs]; rfl
        refine ⟨fun σ H' => ∃ g : Bool, (∃ x4 x5 x6 x7 x8 x9, σ = [some (.ref a), some (.ref b), some (.ref fd), some (.bl g), x4, x5, x6, x7, x8, x9]) ∧ Ex H H' ∧ H' fd = some (.dK (kvF (fs ++ fsL mv fs n))) ∧ g = !(fsL mv fs n).isEmpty, ?_, ?_⟩
        · rintro σ' H' ⟨g, hσ, h1, h2, h3⟩
          rw [← hfs1] at h2
          cases e : fsL mv fs n with
          | nil =>
            rw [e] at h3 hfs1
            refine ⟨1, by rw [if_pos rfl]; omega, k + 1, g, hσ, h1, h2, fun _ => ?_, by rw [h3]; rfl⟩
            rw [hfs1, List.append_nil]
            exact e
          | cons p r =>
            rw [e] at h3 hfs1
            refine ⟨n + 2 - (fsK ss mv n (k + 1)).length, ?_, k + 1, g, hσ, h1, h2, fun z => (by rw [h3] at z; cases z), by rw [h3]; rfl⟩
            rw [if_pos rfl]
            rw [hfs1, List.length_append, List.length_cons] at *
            omega
        · -- later = {}
          intro lt hlt
          have exl := Ex.new (o := .dK []) hlt
          have hll : upd H3 lt (.dK []) lt = some (.dK []) := upd_same
          generalize upd H3 lt (.dK []) = H4 at exl hll
          have ex4 := ex3.trans exl
          have hx3 := ex3 _ _ hxs
          refine ⟨_, rfl, a, xs, rfl, .inl (.of (ex4 _ _ hxs)), _, rfl, by omega, by omega, ?_⟩
          refine for_it (walk_rn (n := n) (by rw [lx])) (fun i σ H' => (∃ x5 x6 x7 x8 x9, σ = [some (.ref a), some (.ref b), some (.ref fd), some (.bl true), some (.ref lt), x5, x6, x7, x8, x9]) ∧ Ex H3 H' ∧ H' lt = some (.dK (kvF (fsL mv fs i)))) ⟨⟨_, _, _, _, _, rfl⟩, exl, hll⟩ (fun _ _ _ _ _ => trivial) (fun i x σ _ H5 hi hP hy => ?_) (fun σ H5 hP => ?_)
          · obtain ⟨rfl, rfl⟩ := hy
            obtain ⟨⟨x5, x6, x7, x8, x9, rfl⟩, ex5, hl5⟩ := hP
            have hbs5 := (ex3.trans ex5) _ _ hbs
            have rbs5 : Paired (fun b row => ∃ xs, H5 b = some (.lst xs) ∧ RDs H5 xs (row.map dMv)) bs mv := pair_mapP rbs fun b row ⟨xs, g1, g2⟩ => ⟨xs, (ex3.trans ex5) _ _ g1, g2.ex (ex3.trans ex5)⟩
            have hd5 := ex5 _ _ hd3
            refine ⟨_, rfl, b, _, rfl, .of hbs5, fun sm hsm => ?_⟩
            refine lc_it (walk_enum (xs := bs.map V.ref)) (fun s H' => Ex H5 H' ∧ H' sm = some (.lst ((stL mv fs i s).map vN))) ⟨Ex.new hsm, upd_same⟩ (fun s H' _ hP => .of (hP.1 _ _ hbs5)) (fun s x H6 H7 hs hP hy => ?_) (fun H6 hP => ?_)
            · obtain ⟨T1, y1, y2, rfl, nT, rfl, e1, e2⟩ := hy
              cases e1
              rw [List.length_map] at hs
              replace e2 : (bs.map V.ref)[s]? = some y2 := e2
              rw [List.getElem?_map, List.getElem?_eq_getElem hs] at e2
              cases e2
              obtain ⟨ex6, hsm6⟩ := hP
              have exT := Ex.new (o := .tup [.int (s : Nat), .ref bs[s]]) nT
              have hTT : upd H6 T1 (.tup [.int (s : Nat), .ref bs[s]]) T1 = some (.tup [.int (s : Nat), .ref bs[s]]) := upd_same
              generalize upd H6 T1 (.tup [.int (s : Nat), .ref bs[s]]) = H7 at exT hTT
              have ex7 := ex6.trans exT
              obtain ⟨row, hrow, rxs2, hb2, rb2⟩ := pair_at rbs5 (List.getElem?_eq_getElem hs)
              have hrl := hmr row (List.mem_of_getElem? hrow)
              obtain ⟨xm, hxm, rxm⟩ := (rb2.ex ex7).at (i := i) (d := dMv row[i]) (by rw [List.getElem?_map, List.getElem?_eq_getElem (by omega)]; rfl)
              obtain ⟨pm, rfl, hpm⟩ := rxm.mov
              have hat : mvAt mv s i = row[i] := by
                unfold mvAt
                rw [getD_at hrow, getD_at (List.getElem?_eq_getElem (by omega))]
              refine ⟨T1, _, rfl, .of hTT, rfl, _, _, rfl, _, _, rfl, rfl, rfl, ?_⟩
              refine ⟨_, rfl, _, rfl, bs[s], _, _, _, rfl, rfl, .of (ex7 _ _ hb2), atI_nat hxm, pm, _, _, _, rfl, rfl, .of hpm, rfl, _, rfl, fd, _, rfl, dget_F (.of (ex7 _ _ hd5)) _, _, rfl, ?_⟩
              rw [kvF_some, ← hat]
              have hsm7 := exT _ _ hsm6
              cases ei : inF fs (mvAt mv s i).1 with
              | false =>
                refine itF Bool.false_ne_true ⟨ex7, ?_⟩
                rw [stL_succ, ei]
                simpa using hsm7
              | true =>
                refine itT rfl ⟨_, rfl, _, hsm7, ?_, ex7.mut hsm, ?_⟩
                · rw [List.length_map]
                  have := List.length_filter_le (fun t => inF fs (mvAt mv t i).1) (List.range s)
                  rw [List.length_range] at this
                  unfold stL
                  simp [sizeLine]
                  omega
                · rw [upd_same, stL_succ, ei]
                  simp
            · obtain ⟨ex6, hsm6⟩ := hP
              rw [List.length_map, lb] at hsm6
              have hd6 := ex6 _ _ hd5
              have hl6 := ex6 _ _ hl5
              have es : fsL mv fs (i + 1) = fsL mv fs i ++ fsStep mv fs i := fsL_succ ..
              refine ⟨_, rfl, _, rfl, fd, _, rfl, dget_F (.of hd6) _, _, rfl, ?_⟩
              cases ei : (valV (kvF fs) (Sum.inl (i : Int))) with
              | some z =>
                have hin : inF fs i = true := by rw [← kvF_some, ei]; rfl
                refine itF Bool.false_ne_true ?_
                refine itF Bool.false_ne_true ?_
                refine ⟨⟨_, _, _, _, _, rfl⟩, ex5.trans ex6, ?_⟩
                rw [es, fsStep, if_pos hin, List.append_nil]
                exact hl6
              | none =>
                have hin : inF fs i = false := by rw [← kvF_some, ei]; rfl
                refine itT rfl ?_
                refine ⟨_, rfl, by simp, fun z hz => ?_⟩
                have exz := Ex.new (o := .lst []) hz
                refine ⟨.list ((stL mv fs i mv.length).map dN), .list [], .lst (.of (exz _ _ hsm6)) (rds_n _).dp, .lst (.of upd_same) .nil, nats_shapedL _, nil_shaped, _, rfl, ?_⟩
                rw [nats_ne]
                cases est : stL mv fs i mv.length with
                | nil =>
                  refine itF Bool.false_ne_true ?_
                  refine ⟨⟨_, _, _, _, _, rfl⟩, (ex5.trans ex6).trans exz, ?_⟩
                  rw [es, fsStep, if_neg (by rw [hin]; exact Bool.false_ne_true), est, List.append_nil]
                  exact exz _ _ hl6
                | cons s0 r =>
                  refine itT rfl ?_
                  rw [est] at hsm6
                  have hl7 := exz _ _ hl6
                  refine ⟨_, rfl, sm, _, _, _, rfl, rfl, .of (exz _ _ hsm6), atI_nat (j := 0) rfl, _, rfl, _, rfl, lt, _, rfl, .inl ⟨_, Sum.inl (i : Int), hl7, rfl, ?_, rfl⟩, ?_⟩
                  · rw [kvF_len]
                    have := (fsL_ok mv fok i (by omega)).len
                    rw [List.length_append] at this
                    simp [sizeLine]
                    omega
                  · refine ⟨⟨_, _, _, _, _, rfl⟩, ((ex5.trans ex6).trans exz).mut hlt, ?_⟩
                    have nin : inF (fsL mv fs i) i = false := by
                      cases q : inF (fsL mv fs i) i with
                      | false => rfl
                      | true =>
                        obtain ⟨p, hp, hpe⟩ := List.mem_map.mp (inF_iff.mp q)
                        unfold fsL at hp
                        rw [List.mem_flatMap] at hp
                        obtain ⟨j, hj, hp⟩ := hp
                        rw [List.mem_range] at hj
                        have := (fsStep_mem hp).1
                        omega
                    rw [upd_same, es, fsStep, if_neg (by rw [hin]; exact Bool.false_ne_true), est, show vN s0 = vF (some s0) from rfl, kvF_put nin]
          · obtain ⟨⟨x5, x6, x7, x8, x9, rfl⟩, ex5, hl5⟩ := hP
            have hd5 := ex5 _ _ hd3
            have nfl : fd ≠ lt := ne_of_none hd3 hlt
            -- update
            refine ⟨_, rfl, .inr (.inr (.inl ⟨rfl, .inl ⟨_, hd5⟩⟩)), ?_⟩
            refine ⟨_, rfl, fd, lt, _, _, rfl, rfl, nfl, hd5, hl5, by rw [kvF_len, kvF_len]; rw [hfs1, List.length_append] at fl1; simp [sizeLine]; omega, ?_⟩
            rw [kvF_merge (by rw [← hfs1]; exact fok1.nd)]
            have ex6 := (ex3.trans ex5).mut (o := .dK (kvF (fs ++ fsL mv fs n))) hfd
            have hl6 : upd H5 fd (.dK (kvF (fs ++ fsL mv fs n))) lt = some (.dK (kvF (fsL mv fs n))) := by rw [upd_ne nfl.symm]; exact hl5
            have hd6 : upd H5 fd (.dK (kvF (fs ++ fsL mv fs n))) fd = some (.dK (kvF (fs ++ fsL mv fs n))) := upd_same
            generalize upd H5 fd (.dK (kvF (fs ++ fsL mv fs n))) = H6 at ex6 hl6 hd6
            refine ⟨_, rfl, fun z hz => ?_⟩
            have exz := Ex.new (o := .dK []) hz
            refine ⟨lt, z, _, rfl, rfl, exz _ _ hl6, upd_same, ?_⟩
            refine ⟨_, ⟨_, _, _, _, _, _, rfl⟩, ex6.trans exz, exz _ _ hd6, ?_⟩
            unfold kvF
            cases fsL mv fs n <;> rfl
end
end Cp
end

section
set_option Elab.async false
set_option linter.all false
set_option maxRecDepth 100000
set_option maxHeartbeats 4000000
namespace Cp
open PySem PySem.Spec PyProof.Rows L2
theorem kvF_get {fs : Fs} {i : Nat} {o : Option Nat} (h : fget fs i = some o) : valV (kvF fs) (Sum.inl (i : Int)) = some (vF o) := by
  unfold fget at h
  rw [kvF_val]
  rw [Option.map_eq_some_iff] at h
  obtain ⟨p, h1, h2⟩ := h
  rw [h1, ← h2]
  rfl
def kvR (rs : Rs) : List (Key × V) := rs.map fun p => (Sum.inl (p.1 : Int), V.int p.2)
theorem kvR_val : ∀ (rs : Rs) (i : Nat), valV (kvR rs) (Sum.inl (i : Int)) = (rget rs i).map V.int
  | [], i => rfl
  | p :: rs, i => by
    have ih := kvR_val rs i
    unfold valV kvR rget at ih ⊢
    rw [List.map_cons, List.find?_cons, List.find?_cons]
    by_cases e : p.1 = i
    · simp [e]
    · have : ¬ (Sum.inl (p.1 : Int) : Key) = Sum.inl (i : Int) := by
        intro z
        injection z with z
        omega
      simp only [this, e, decide_false]
      exact ih
theorem dget_R {H : Hp} {a : Addr} {rs : Rs} (h : Rd H a (.dK (kvR rs))) (i : Nat) : DGet H a (vN i) ((rget rs i).map V.int) := .inl ⟨_, _, h, rfl, (kvR_val rs i).symm⟩
theorem dget_F1 {H : Hp} {a : Addr} {fs : Fs} (h : Rd H a (.dK (kvF fs))) {i : Nat} {o : Option Nat} (e : fget fs i = some o) : DGet H a (vN i) (some (vF o)) := by
  rw [← kvF_get e]
  exact dget_F h i
/-- a move's place -/
theorem MvV.at {H : Hp} {b : Addr} {mv : List (List Mv)} {n : Nat} (h : MvV H b mv) (hr : ∀ r ∈ mv, r.length = n) {s i : Nat} (hs : s < mv.length) (hi : i < n) : ∃ (bs : List Addr) (c : Addr) (ys : List V) (p : Addr), H b = some (.lst (bs.map V.ref)) ∧ bs[s]? = some c ∧ H c = some (.lst ys) ∧ ys[i]? = some (.ref p) ∧ H p = some (.tup [vN (mvAt mv s i).1, vO (mvAt mv s i).2]) := by
  obtain ⟨bs, hb, rb⟩ := h
  have lb : bs.length = mv.length := rb.length
  obtain ⟨row, hrow, ys, hc, ry⟩ := pair_at rb (List.getElem?_eq_getElem (show s < bs.length by omega))
  have hrl := hr row (List.mem_of_getElem? hrow)
  obtain ⟨x, hx, rx⟩ := ry.at (i := i) (d := dMv row[i]) (by rw [List.getElem?_map, List.getElem?_eq_getElem (by omega)]; rfl)
  obtain ⟨p, rfl, hp⟩ := rx.mov
  have hat : mvAt mv s i = row[i] := by
    unfold mvAt
    rw [getD_at hrow, getD_at (List.getElem?_eq_getElem (by omega))]
  refine ⟨bs, _, ys, p, hb, List.getElem?_eq_getElem (by omega), hc, hx, ?_⟩
  rw [hat]
  exact hp
/-- a found state's place -/
theorem OrV.at {H : Hp} {a : Addr} {order : List Ent} (h : OrV H a order) {i : Nat} (hi : i < order.length) : ∃ (xs : List V) (p u b : Addr), H a = some (.lst xs) ∧ xs[i]? = some (.ref p) ∧ H p = some (.tup [.ref u, vN order[i].2.1, .ref b]) ∧ H u = some (.tup (order[i].1.map vO)) := by
  obtain ⟨xs, ha, rx⟩ := h
  obtain ⟨x, hx, r⟩ := rx.at (i := i) (d := dEnt order[i]) (by rw [List.getElem?_map, List.getElem?_eq_getElem hi]; rfl)
  obtain ⟨p, u, b, rfl, hp, ru, hb⟩ := r.ent
  obtain ⟨pu, rfl, hpu⟩ := ru.row
  exact ⟨xs, p, pu, b, ha, hx, hp, hpu⟩
theorem goalO_at {order : List Ent} {i : Nat} (hi : i < order.length) : goalO (order.map (·.1)) i = order[i].1.getD 0 none := by
  unfold goalO
  rw [getD_at (x := order[i].1) (by rw [List.getElem?_map, List.getElem?_eq_getElem hi]; rfl)]
def pkK (p : Nat × Option Int) : NestedKey := .tup [.num (p.1 : Int), oNK p.2]
def mkL : Mark → List NestedKey
  | none => []
  | some (g, l) => oNK g :: l.map pkK
def mkK (m : Mark) : NestedKey := .tup (mkL m)
theorem pkK_inj {p q : Nat × Option Int} (h : pkK p = pkK q) : p = q := by
  unfold pkK at h
  injection h with h
  injection h with h1 h
  injection h1 with h1
  injection h with h2 _
  have h3 := oNK_inj h2
  obtain ⟨p1, p2⟩ := p
  obtain ⟨q1, q2⟩ := q
  have : p1 = q1 := by
    have : (p1 : Int) = (q1 : Int) := h1
    omega
  rw [this, show p2 = q2 from h3]
theorem pks_inj : ∀ {s t : List (Nat × Option Int)}, s.map pkK = t.map pkK → s = t
  | [], [], _ => rfl
  | [], _ :: _, h => by simp at h
  | _ :: _, [], h => by simp at h
  | a :: s, b :: t, h => by
    rw [List.map_cons, List.map_cons] at h
    injection h with h1 h2
    rw [pkK_inj h1, pks_inj h2]
theorem mkK_inj {m m' : Mark} (h : mkK m = mkK m') : m = m' := by
  unfold mkK at h
  injection h with h
  cases m with
  | none =>
    cases m' with
    | none => rfl
    | some q => simp [mkL] at h
  | some p =>
    cases m' with
    | none => simp [mkL] at h
    | some q =>
      obtain ⟨p1, p2⟩ := p
      obtain ⟨q1, q2⟩ := q
      simp only [mkL] at h
      injection h with h1 h2
      rw [oNK_inj h1, pks_inj h2]
theorem depth_pks : ∀ (l : List (Nat × Option Int)), NestedKey.depthAll (l.map pkK) ≤ 2
  | [] => by simp [NestedKey.depthAll]
  | p :: r => by
    have h1 := depth_pks r
    have h2 : (pkK p).depth ≤ 2 := by
      unfold pkK
      cases p.2 <;> simp [oNK, NestedKey.depth, NestedKey.depthAll]
    rw [List.map_cons, NestedKey.depthAll]
    omega
theorem mkK_depth (m : Mark) : (mkK m).depth ≤ 8 := by
  unfold mkK
  cases m with
  | none => simp [mkL, NestedKey.depth, NestedKey.depthAll]
  | some p =>
    obtain ⟨g, l⟩ := p
    have := depth_pks l
    cases g <;> simp [mkL, oNK, NestedKey.depth, NestedKey.depthAll] <;> omega
theorem nk_o {H : Hp} (x : Option Int) : NK H (vO x) (oNK x) := by
  cases x with
  | none => exact .non
  | some i => exact .int i
theorem NKs.app {H : Hp} : ∀ {xs ys : List V} {ks ls : List NestedKey}, NKs H xs ks → NKs H ys ls → NKs H (xs ++ ys) (ks ++ ls)
  | _, _, _, _, .nil, r => r
  | _, _, _, _, .cons h r, q => .cons h (r.app q)
theorem NKs.length {H : Hp} : ∀ {xs : List V} {ks : List NestedKey}, NKs H xs ks → xs.length = ks.length
  | _, _, .nil => rfl
  | _, _, .cons _ r => by rw [List.length_cons, List.length_cons, r.length]
theorem NK.ex {H H' : Hp} {v : V} {k : NestedKey} (h : NK H v k) (e : Ex H H') : NK H' v k := h.tu e.tu
section
variable {P : Program} {w : World} {K : PySem.W.Frag} {mg : Str → Option Value} {base : Heap}
/-! first_rest -/
def sp_first_rest : Sp := fun vs H Q _ => ∃ (a b d : Addr) (order : List Ent) (mv : List (List Mv)) (fs : Fs) (dp i : Nat) (r : Int), vs = [.ref a, .ref b, .ref d, vN i] ∧ OrV H a order ∧ MvV H b mv ∧ Rd H d (.dK (kvF fs)) ∧ (∀ e ∈ order, 1 ≤ e.1.length) ∧ (∀ r ∈ mv, r.length = order.length) ∧ FsOk order.length mv.length fs ∧
  RestIs (order.map (·.1)) mv fs dp i r ∧ Q (.int r) H
theorem ok_first_rest (T : Tx mg) (D : Def K mg "first_rest" s_first_rest) : Cal P w K mg base CX0 "first_rest" 1 ["order", "moves", "firsts", "number"] sp_first_rest := by
  obtain ⟨f, fd, F, hm⟩ := D.ex
  refine ⟨f, fd, F.ok sc_first_rest (fun vs H Q E h => ?_) (fun cdv A outer s H vs Q E hr h => ?_), hm, F.kp, F.binds fun _ _ _ _ _ _ us hl => match us, hl with | [_, _, _, _], _ => rfl⟩
  · obtain ⟨a, b, d, order, mv, fs, dp, i, r, rfl, _⟩ := h
    rfl
  · obtain ⟨a, b, d, order, mv, fs, dp, i, r, rfl, hO, hV, hd, hl1, hmr, hok, hR, q⟩ := h
    refine ⟨_, (pss_cons (ps_par (i := 4) (j := 5) rfl sc_first_rest.nd rfl rfl (by decide) rfl rfl (pa_cons pe_int (pa_cons (pv 3) pa_nil)) (by rfl))
  (pss_cons (ps_while PassesOwn.never (pt_cmpR op_notN (pe_dget (hu_of hr) (pv 2) (pv 5) (fun _ _ => rfl)) pe_non (nomark _))
  (pss_cons (ps_asg (pe_ix (kx_list K) (pe_ix (kx_list K) (pv 1) (pe_dget (hu_of hr) (pv 2) (pv 5) (fun _ _ => rfl)) (fun _ _ => rfl)) (pv 5) (fun _ _ => rfl)) (kg_tup K (n := 2) rfl (pgs_cons (pg_name (i := 5) sc_first_rest.nd rfl (by first | exact .inl rfl | exact .inr rfl)) (pgs_cons (pg_name (i := 6) sc_first_rest.nd rfl (by first | exact .inl rfl | exact .inr rfl)) pgs_nil))))
  (pss_one (ps_set (i := 4) sc_first_rest.nd rfl (by first | exact .inl rfl | exact .inr rfl) (pe_op op_add (pv 4) (pv 6))))))
  (pss_one (ps_ret (pe_op op_add (pv 4) (pe_ix (kx_tup K) (pe_ix (kx_tup K) (pe_ix (kx_list K) (pv 0) (pv 5) (fun _ _ => rfl)) pe_int (fun _ _ => rfl)) (pe_cst T.cGOAL) (fun _ _ => rfl))))))), ?_⟩
    refine ⟨_, rfl, _, _, rfl, ?_⟩
    refine ⟨fun m σ H' => ∃ (k : Nat) (g r2 : Int), (∃ x6, σ = [some (.ref a), some (.ref b), some (.ref d), some (vN i), some (.int g), some (vN k), x6]) ∧ H' = H ∧ RestIs (order.map (·.1)) mv fs m k r2 ∧ g + r2 = r, ⟨dp, i, 0, r, ⟨_, rfl⟩, rfl, hR, by omega⟩, ?_⟩
    rintro m σ H' ⟨k, g, r2, ⟨x6, rfl⟩, rfl, hk, rfl⟩
    cases hk with
    | goal h1 h2 =>
      refine ⟨_, rfl, _, rfl, d, _, rfl, dget_F1 hd h1, rfl, _, rfl, ?_⟩
      refine itF Bool.false_ne_true ?_
      have hk := hok.lt _ (fget_mem h1)
      obtain ⟨xs, p, u, b2, hxs, hx, hp, hu⟩ := hO.at hk
      rw [goalO_at hk] at h2
      have hz := hl1 _ (List.getElem_mem hk)
      refine ⟨_, rfl, _, rfl, _, rfl, a, xs, _, _, rfl, rfl, .of hxs, atI_nat hx, p, _, _, _, rfl, rfl, .of hp, rfl, u, _, _, _, rfl, rfl, .of hu, atI_nat (j := 0) (by rw [vO_at hz, h2]; rfl), _, _, rfl, rfl, q⟩
    | step h1 h2 h3 =>
      refine ⟨_, rfl, _, rfl, d, _, rfl, dget_F1 hd h1, rfl, _, rfl, ?_⟩
      refine itT rfl ?_
      refine ⟨_, fun σ' H' n => ⟨_, Nat.lt_succ_self _, n⟩, ?_⟩
      have hk := hok.lt _ (fget_mem h1)
      have hs := hok.st _ (fget_mem h1) _ rfl
      obtain ⟨bs, c, ys, p, hb, hbs, hc, hy, hp⟩ := hV.at hmr hs hk
      rw [h2] at hp
      refine ⟨_, rfl, _, rfl, _, rfl, d, _, rfl, dget_F1 hd h1, b, _, _, _, rfl, rfl, .of hb, atI_nat (by rw [List.getElem?_map, hbs]; rfl), _, rfl, c, ys, _, _, rfl, rfl, .of hc, atI_nat hy, ?_⟩
      refine ⟨p, _, rfl, .of hp, rfl, _, _, rfl, _, _, rfl, rfl, ?_⟩
      refine ⟨_, rfl, _, rfl, _, _, rfl, rfl, ?_⟩
      exact ⟨_, _, _, ⟨_, rfl⟩, rfl, h3, by omega⟩
/-! marks_of -/
structure MvOk (n : Nat) (mv : List (List Mv)) : Prop where
  row : ∀ r ∈ mv, r.length = n
  lt : ∀ s i, s < mv.length → i < n → (mvAt mv s i).1 < n
def GrOk (n : Nat) (mv : List (List Mv)) (rs : Rs) : Prop := ∀ s i, s < mv.length → i < n → ∀ r, rget rs (mvAt mv s i).1 = some r → ∃ w, (mvAt mv s i).2 = some w
/-- the marks -/
def MkV (H : Hp) (ys : List V) (ms : List Mark) : Prop := Paired (fun y k => ∃ b, IsK H y b (mkK k)) ys ms
def sp_marks_of (K : PySem.W.Frag) : Sp := fun vs H Q _ => ∃ (a b d pl : Addr) (order : List Ent) (mv : List (List Mv)) (rs : Rs) (parts : List Nat), vs = [.ref a, .ref b, .ref d, .ref pl] ∧ OrV H a order ∧ MvV H b mv ∧ Rd H d (.dK (kvR rs)) ∧ SqL K H pl (parts.map vN) ∧ parts.length = order.length ∧
  (∀ e ∈ order, 1 ≤ e.1.length) ∧ MvOk order.length mv ∧ GrOk order.length mv rs ∧ order.length ≤ 1000 ∧ mv.length ≤ 100000 ∧
  ∀ (l : Addr) (ys : List V) (H' : Hp), H l = none → Ex H H' → H' l = some (.lst ys) → MkV H' ys (marksF (order.map (·.1)) mv rs parts order.length) → Q (.ref l) H'
theorem ok_marks_of (T : Tx mg) (D : Def K mg "marks_of" s_marks_of) : Cal P w K mg base CX0 "marks_of" 1 ["order", "moves", "rests", "parts"] (sp_marks_of K) := by
  obtain ⟨f, fd, F, hm⟩ := D.ex
  refine ⟨f, fd, F.ok sc_marks_of (fun vs H Q E h => ?_) (fun cdv A outer s H vs Q E hr h => ?_), hm, F.kp, F.binds fun _ _ _ _ _ _ us hl => match us, hl with | [_, _, _, _], _ => rfl⟩
  · obtain ⟨a, b, d, pl, order, mv, rs, parts, rfl, _⟩ := h
    rfl
  · obtain ⟨a, b, d, pl, order, mv, rs, parts, rfl, hO, hV, hd, hp, hpl, hl1, hmv, hgr, h1000, hmz, q⟩ := h
    refine ⟨_, (pss_cons (ps_set (i := 4) sc_marks_of.nd rfl (by first | exact .inl rfl | exact .inr rfl) (pe_lst pa_nil))
  (pss_cons (ps_for PassesOwn.never rfl (pi_enum (by rfl) T.enumerate (pa_cons (pv 0) pa_nil)) (kg_tup K (n := 2) rfl (pgs_cons (pg_name (i := 5) sc_marks_of.nd rfl (by first | exact .inl rfl | exact .inr rfl)) (pgs_cons (pg_name (i := 6) sc_marks_of.nd rfl (by first | exact .inl rfl | exact .inr rfl)) pgs_nil)))
  (pss_cons (ps_set (i := 7) sc_marks_of.nd rfl (by first | exact .inl rfl | exact .inr rfl) (pe_lst pa_nil))
  (pss_cons (ps_if (pt_cmp (pc_din (hu_of hr) (pv 5) (pv 2)) (by rfl)) (pss_cons (ps_set (i := 8) sc_marks_of.nd rfl (by first | exact .inl rfl | exact .inr rfl) (pe_ix (kx_tup K) (pe_ix (kx_tup K) (pv 6) pe_int (fun _ _ => rfl)) (pe_cst T.cGOAL) (fun _ _ => rfl)))
  (pss_cons (ps_expr (pe_bm PySem.F.plainAttrs_list PySem.F.slot_list_append PySem.F.type_list_append mt_append (pv 7) (pa_cons (pe_ifExp (pt_cmpR op_isN (pv 8) pe_non (nomark _)) pe_non (pe_op op_sub (pv 8) (pe_dget (hu_of hr) (pv 2) (pv 5) (fun _ _ => rfl)))) pa_nil)))
  (pss_one (ps_for PassesOwn.never rfl (ki_list K (pv 1)) (pg_name (i := 9) sc_marks_of.nd rfl (by first | exact .inl rfl | exact .inr rfl))
  (pss_cons (ps_asg (pe_ix (kx_list K) (pv 9) (pv 5) (fun _ _ => rfl)) (kg_tup K (n := 2) rfl (pgs_cons (pg_name (i := 10) sc_marks_of.nd rfl (by first | exact .inl rfl | exact .inr rfl)) (pgs_cons (pg_name (i := 11) sc_marks_of.nd rfl (by first | exact .inl rfl | exact .inr rfl)) pgs_nil))))
  (pss_cons (ps_set (i := 12) sc_marks_of.nd rfl (by first | exact .inl rfl | exact .inr rfl) (pe_ifExp (pt_cmp (pc_dnotin (hu_of hr) (pv 10) (pv 2)) (by rfl)) pe_non (pe_op op_sub (pe_op op_add (pv 11) (pe_dget (hu_of hr) (pv 2) (pv 10) (fun _ _ => rfl))) (pe_dget (hu_of hr) (pv 2) (pv 5) (fun _ _ => rfl)))))
  (pss_one (ps_expr (pe_bm PySem.F.plainAttrs_list PySem.F.slot_list_append PySem.F.type_list_append mt_append (pv 7) (pa_cons (pe_tup (pa_cons (pe_ix (kx_list K) (pv 3) (pv 10) (fun _ _ => rfl)) (pa_cons (pv 12) pa_nil))) pa_nil)))))))))) pss_nil)
  (pss_one (ps_expr (pe_bm PySem.F.plainAttrs_list PySem.F.slot_list_append PySem.F.type_list_append mt_append (pv 4) (pa_cons (pe_callTy (kc_tup K) (by rfl) T.tuple boot_tuple (pa_cons (pv 7) pa_nil)) pa_nil)))))))
  (pss_one (ps_ret (pv 4))))), ?_⟩
    refine ⟨by simp, fun l hl => ?_⟩
    have ex0 := Ex.new (o := .lst []) hl
    have hll : upd H l (.lst []) l = some (.lst []) := upd_same
    generalize upd H l (.lst []) = H0 at ex0 hll
    obtain ⟨xs, hxs, rxs⟩ := id hO
    have lx : xs.length = order.length := by rw [rxs.length, List.length_map]
    refine ⟨_, rfl, a, xs, rfl, .of (ex0 _ _ hxs), ?_⟩
    refine for_it (walk_enum (xs := xs)) (fun i σ H' => (∃ x5 x6 x7 x8 x9 x10 x11 x12, σ = [some (.ref a), some (.ref b), some (.ref d), some (.ref pl), some (.ref l), x5, x6, x7, x8, x9, x10, x11, x12]) ∧ Ex H H' ∧ ∃ ys, H' l = some (.lst ys) ∧ MkV H' ys ((marksF (order.map (·.1)) mv rs parts order.length).take i)) ⟨⟨_, _, _, _, _, _, _, _, rfl⟩, ex0, [], hll, .nil⟩ (fun i σ H' _ hP => .of (hP.2.1 _ _ hxs)) (fun i x σ H2 H3 hi hP hy => ?_) (fun σ H2 hP => ?_)
    · obtain ⟨T1, y1, y2, rfl, nT, rfl, e1, e2⟩ := hy
      cases e1
      replace e2 : xs[i]? = some y2 := e2
      obtain ⟨⟨x5, x6, x7, x8, x9, x10, x11, x12, rfl⟩, ex2, ys, hl2, rys⟩ := hP
      have exT := Ex.new (o := .tup [.int (i : Nat), y2]) nT
      have hTT : upd H2 T1 (.tup [.int (i : Nat), y2]) T1 = some (.tup [.int (i : Nat), y2]) := upd_same
      generalize upd H2 T1 (.tup [.int (i : Nat), y2]) = H3 at exT hTT
      have ex3 := ex2.trans exT
      have hl3 := exT _ _ hl2
      have rys3 : MkV H3 ys ((marksF (order.map (·.1)) mv rs parts order.length).take i) := pair_mapP rys fun y k ⟨b, h⟩ => ⟨b, h.tu exT.tu⟩
      have hin : i < order.length := by omega
      have hms : (marksF (order.map (·.1)) mv rs parts order.length)[i]? = some (markF (order.map (·.1)) mv rs parts i) := by
        unfold marksF
        rw [List.getElem?_map, List.getElem?_range hin]
        rfl
      have ylen : ys.length = i := by
        rw [rys.length, List.length_take]
        unfold marksF
        rw [List.length_map, List.length_range]
        omega
      refine ⟨T1, _, rfl, .of hTT, rfl, _, _, rfl, _, _, rfl, rfl, ?_⟩
      -- mark = []
      refine ⟨by simp, fun mk hmk => ?_⟩
      have exm := Ex.new (o := .lst []) hmk
      have hmm : upd H3 mk (.lst []) mk = some (.lst []) := upd_same
      generalize upd H3 mk (.lst []) = H4 at exm hmm
      have ex4 := ex3.trans exm
      have hd4 : Rd H4 d (.dK (kvR rs)) := Rd.ex hd ex4
      -- the end of a turn
      have fin : ∀ {H9 : Hp} {zs : List V} {t : Addr}, Ex H3 H9 → H9 t = none → NKs H9 zs (mkL (markF (order.map (·.1)) mv rs parts i)) → upd H9 t (.tup zs) l = some (.lst ys) ∧ Ex H (upd (upd H9 t (.tup zs)) l (.lst (ys ++ [.ref t]))) ∧ ∃ ys', upd (upd H9 t (.tup zs)) l (.lst (ys ++ [.ref t])) l = some (.lst ys') ∧ MkV (upd (upd H9 t (.tup zs)) l (.lst (ys ++ [.ref t]))) ys' ((marksF (order.map (·.1)) mv rs parts order.length).take (i + 1)) := fun {H9 zs t} h1 h2 h3 => by
        have ext := Ex.new (o := .tup zs) h2
        have h4 := ext _ _ (h1 _ _ hl3)
        have tu := Tu.lst (o := .lst (ys ++ [.ref t])) h4
        refine ⟨h4, ((ex3.trans h1).trans ext).mut hl, _, upd_same, ?_⟩
        rw [List.take_succ, hms]
        refine pair_snoc' (pair_mapP rys3 fun y k ⟨b, h⟩ => ⟨b, ((h.tu h1.tu).tu ext.tu).tu tu⟩) ⟨t, rfl, ?_, mkK_depth _⟩
        exact .tup (tu _ _ upd_same) ((h3.tu ext.tu).tu tu)
      refine ⟨_, rfl, _, rfl, d, _, rfl, dget_R hd4 i, _, rfl, ?_⟩
      cases er : rget rs i with
      | none =>
        refine itF Bool.false_ne_true ?_
        have em : mkL (markF (order.map (·.1)) mv rs parts i) = [] := by unfold markF; rw [er]; rfl
        refine ⟨_, rfl, .inl ⟨rfl, ys, .of (exm _ _ hl3)⟩, ?_⟩
        refine ⟨_, rfl, mk, [], rfl, .inl ⟨.of hmm, fun t ht => ?_⟩⟩
        obtain ⟨f1, f2⟩ := fin exm ht (by rw [em]; exact .nil)
        exact ⟨l, ys, _, rfl, rfl, f1, by simp [sizeLine]; omega, ⟨_, _, _, _, _, _, _, _, rfl⟩, f2⟩
      | some r =>
        refine itT rfl ?_
        obtain ⟨e, he, re⟩ := rds_at (rxs.ex ex4) e2
        obtain ⟨pe, u, b2, rfl, hpe, ru, hb2⟩ := re.ent
        obtain ⟨pu, rfl, hpu⟩ := ru.row
        have h1 := hl1 e (List.mem_of_getElem? he)
        have hg : goalO (order.map (·.1)) i = e.1.getD 0 none := by
          rw [goalO_at hin]
          rw [List.getElem?_eq_getElem hin] at he
          rw [Option.some.inj he]
        have em : mkL (markF (order.map (·.1)) mv rs parts i) = oNK ((goalO (order.map (·.1)) i).map (· - r)) :: ((List.range mv.length).map fun s => (parts.getD (mvAt mv s i).1 0, moreF rs r (mvAt mv s i))).map pkK := by unfold markF; rw [er]; rfl
        refine ⟨_, rfl, pe, _, _, _, rfl, rfl, .of hpe, rfl, pu, _, _, _, rfl, rfl, .of hpu, atI_nat (j := 0) (vO_at h1), ?_⟩
        rw [← hg]
        refine ⟨_, rfl, .inl ⟨rfl, [], .of hmm⟩, ?_⟩
        refine ⟨_, rfl, rfl, _, rfl, ?_⟩
        -- the first part laid
        obtain ⟨bs, hbs, rbs⟩ := id hV
        have lb : bs.length = mv.length := rbs.length
        have hdi : DGet H4 d (vN i) (some (V.int r)) := by
          have := dget_R hd4 i
          rw [er] at this
          exact this
        have hm5 : ∀ {v : V}, v = vO ((goalO (order.map (·.1)) i).map (· - r)) → upd H4 mk (.lst ([] ++ [v])) mk = some (.lst [vO ((goalO (order.map (·.1)) i).map (· - r))]) ∧ Ex H3 (upd H4 mk (.lst ([] ++ [v]))) := fun {v} e => ⟨by rw [upd_same, e]; rfl, exm.mut hmk⟩
        cases eg : goalO (order.map (·.1)) i
        case none =>
          refine itT rfl ?_
          refine ⟨mk, [], _, rfl, rfl, hmm, by simp [sizeLine], ?_⟩
          obtain ⟨hmk5, ex5⟩ := hm5 (v := .non) (by rw [eg]; rfl)
          generalize upd H4 mk (.lst ([] ++ [.non])) = H5 at hmk5 ex5
          rw [eg] at hmk5 em
          generalize (none : Option Int).map (· - r) = g0 at hmk5 em
          have exH := ex3.trans ex5
          have hbs5 := exH _ _ hbs
          have hV5 := hV.ex exH
          refine ⟨_, rfl, b, rfl, ⟨_, .of hbs5⟩, ?_⟩
          refine for_it (walk_list (xs := bs.map V.ref)) (fun s σ H' => (∃ x8 x9 x10 x11 x12, σ = [some (.ref a), some (.ref b), some (.ref d), some (.ref pl), some (.ref l), some (vN i), some (.ref pe), some (.ref mk), x8, x9, x10, x11, x12]) ∧ Ex H3 H' ∧ ∃ zs, H' mk = some (.lst zs) ∧ NKs H' zs (oNK g0 :: ((List.range s).map fun s => (parts.getD (mvAt mv s i).1 0, moreF rs r (mvAt mv s i))).map pkK)) ⟨⟨_, _, _, _, _, rfl⟩, ex5, _, hmk5, .cons (nk_o _) .nil⟩ (fun s σ H' _ hP => .of (hP.2.1 _ _ (ex3 _ _ hbs))) (fun s x σ _ H6 hs hP hy => ?_) (fun σ H6 hP => ?_)
          · obtain ⟨rfl, hx⟩ := hy
            obtain ⟨⟨x8, x9, x10, x11, x12, rfl⟩, ex6, zs, hzs, rzs⟩ := hP
            rw [List.length_map] at hs
            have hs2 : s < mv.length := by omega
            have exH6 := ex3.trans ex6
            obtain ⟨bs2, c, ws, p, hb2, hbs2, hc, hw, hp2⟩ := (hV.ex exH6).at hmv.row hs2 hin
            have hbe := exH6 _ _ hbs
            rw [hb2] at hbe
            have hbe2 : bs2.map V.ref = bs.map V.ref := by injection hbe with h; injection h
            rw [← hbe2, List.getElem?_map, hbs2] at hx
            cases hx
            have hlt := hmv.lt s i hs2 hin
            have hd6 : Rd H6 d (.dK (kvR rs)) := Rd.ex hd exH6
            have hpl6 := SqL.ex hp exH6
            have zlen := rzs.length
            rw [List.length_cons, List.length_map, List.length_map, List.length_range] at zlen
            refine ⟨_, rfl, _, rfl, c, ws, _, _, rfl, rfl, .of hc, atI_nat hw, ?_⟩
            refine ⟨p, _, rfl, .of hp2, rfl, _, _, rfl, _, _, rfl, rfl, ?_⟩
            have hparts : (parts.map vN)[(mvAt mv s i).1]? = some (vN (parts.getD (mvAt mv s i).1 0)) := by
              rw [List.getElem?_map, List.getElem?_eq_getElem (by omega), getD_at (List.getElem?_eq_getElem (by omega))]
              rfl
            have step : ∀ {v : V}, v = vO (moreF rs r (mvAt mv s i)) → ∀ t, H6 t = none → upd H6 t (.tup [vN (parts.getD (mvAt mv s i).1 0), v]) mk = some (.lst zs) ∧ Ex H3 (upd (upd H6 t (.tup [vN (parts.getD (mvAt mv s i).1 0), v])) mk (.lst (zs ++ [.ref t]))) ∧ ∃ zs', upd (upd H6 t (.tup [vN (parts.getD (mvAt mv s i).1 0), v])) mk (.lst (zs ++ [.ref t])) mk = some (.lst zs') ∧ NKs (upd (upd H6 t (.tup [vN (parts.getD (mvAt mv s i).1 0), v])) mk (.lst (zs ++ [.ref t]))) zs' (oNK g0 :: ((List.range (s + 1)).map fun s => (parts.getD (mvAt mv s i).1 0, moreF rs r (mvAt mv s i))).map pkK) := fun {v} e t ht => by
              have ext := Ex.new (o := .tup [vN (parts.getD (mvAt mv s i).1 0), v]) ht
              have h1 := ext _ _ hzs
              have tu := Tu.lst (o := .lst (zs ++ [.ref t])) h1
              refine ⟨h1, (ex6.trans ext).mut hmk, _, upd_same, ?_⟩
              rw [List.range_succ, List.map_append, List.map_append, ← List.cons_append]
              refine ((rzs.tu ext.tu).tu tu).app (.cons ?_ .nil)
              refine .tup (tu _ _ upd_same) (.cons (.int _) (.cons ?_ .nil))
              rw [e]
              exact nk_o _
            refine ⟨_, rfl, _, rfl, d, _, rfl, dget_R hd6 _, _, rfl, ?_⟩
            cases eto : rget rs (mvAt mv s i).1 with
            | none =>
              refine itT rfl ?_
              refine ⟨_, rfl, .inl ⟨rfl, zs, .of hzs⟩, ?_⟩
              refine ⟨_, rfl, _, rfl, pl, _, _, _, rfl, rfl, hpl6, atI_nat hparts, _, rfl, by simp [sizeLine], fun t ht => ?_⟩
              obtain ⟨h1, h2⟩ := step (v := .non) (by unfold moreF; rw [eto]; rfl) t ht
              exact ⟨mk, zs, _, rfl, rfl, h1, by simp [sizeLine]; omega, ⟨_, _, _, _, _, rfl⟩, h2⟩
            | some r2 =>
              refine itF Bool.false_ne_true ?_
              obtain ⟨w2, hw2⟩ := hgr s i hs2 hin r2 eto
              have hdt : DGet H6 d (vN (mvAt mv s i).1) (some (V.int r2)) := by
                have := dget_R hd6 (mvAt mv s i).1
                rw [eto] at this
                exact this
              have hdi6 : DGet H6 d (vN i) (some (V.int r)) := by
                have := dget_R hd6 i
                rw [er] at this
                exact this
              rw [hw2]
              refine ⟨_, rfl, _, rfl, _, rfl, d, _, rfl, hdt, _, _, rfl, rfl, _, rfl, _, rfl, d, _, rfl, hdi6, _, _, rfl, rfl, ?_⟩
              refine ⟨_, rfl, .inl ⟨rfl, zs, .of hzs⟩, ?_⟩
              refine ⟨_, rfl, _, rfl, pl, _, _, _, rfl, rfl, hpl6, atI_nat hparts, _, rfl, by simp [sizeLine], fun t ht => ?_⟩
              obtain ⟨h1, h2⟩ := step (v := .int (w2 + r2 - r)) (by unfold moreF; rw [eto, hw2]; rfl) t ht
              exact ⟨mk, zs, _, rfl, rfl, h1, by simp [sizeLine]; omega, ⟨_, _, _, _, _, rfl⟩, h2⟩
          · obtain ⟨⟨x8, x9, x10, x11, x12, rfl⟩, ex6, zs, hzs, rzs⟩ := hP
            rw [List.length_map, lb, ← em] at rzs
            refine ⟨_, rfl, .inl ⟨rfl, ys, .of (ex6 _ _ hl3)⟩, ?_⟩
            refine ⟨_, rfl, mk, zs, rfl, .inl ⟨.of hzs, fun t ht => ?_⟩⟩
            obtain ⟨f1, f2⟩ := fin ex6 ht rzs
            exact ⟨l, ys, _, rfl, rfl, f1, by simp [sizeLine]; omega, ⟨_, _, _, _, _, _, _, _, rfl⟩, f2⟩
        case some g =>
          refine itF (show ¬ (false = true) by decide) ?_
          refine ⟨_, rfl, _, rfl, _, rfl, d, _, rfl, hdi, _, _, rfl, rfl, ?_⟩
          refine ⟨mk, [], _, rfl, rfl, hmm, by simp [sizeLine], ?_⟩
          obtain ⟨hmk5, ex5⟩ := hm5 (v := .int (g - r)) (by rw [eg]; rfl)
          generalize upd H4 mk (.lst ([] ++ [.int (g - r)])) = H5 at hmk5 ex5
          rw [eg] at hmk5 em
          generalize (some g : Option Int).map (· - r) = g0 at hmk5 em
          have exH := ex3.trans ex5
          have hbs5 := exH _ _ hbs
          have hV5 := hV.ex exH
          refine ⟨_, rfl, b, rfl, ⟨_, .of hbs5⟩, ?_⟩
          refine for_it (walk_list (xs := bs.map V.ref)) (fun s σ H' => (∃ x8 x9 x10 x11 x12, σ = [some (.ref a), some (.ref b), some (.ref d), some (.ref pl), some (.ref l), some (vN i), some (.ref pe), some (.ref mk), x8, x9, x10, x11, x12]) ∧ Ex H3 H' ∧ ∃ zs, H' mk = some (.lst zs) ∧ NKs H' zs (oNK g0 :: ((List.range s).map fun s => (parts.getD (mvAt mv s i).1 0, moreF rs r (mvAt mv s i))).map pkK)) ⟨⟨_, _, _, _, _, rfl⟩, ex5, _, hmk5, .cons (nk_o _) .nil⟩ (fun s σ H' _ hP => .of (hP.2.1 _ _ (ex3 _ _ hbs))) (fun s x σ _ H6 hs hP hy => ?_) (fun σ H6 hP => ?_)
          · obtain ⟨rfl, hx⟩ := hy
            obtain ⟨⟨x8, x9, x10, x11, x12, rfl⟩, ex6, zs, hzs, rzs⟩ := hP
            rw [List.length_map] at hs
            have hs2 : s < mv.length := by omega
            have exH6 := ex3.trans ex6
            obtain ⟨bs2, c, ws, p, hb2, hbs2, hc, hw, hp2⟩ := (hV.ex exH6).at hmv.row hs2 hin
            have hbe := exH6 _ _ hbs
            rw [hb2] at hbe
            have hbe2 : bs2.map V.ref = bs.map V.ref := by injection hbe with h; injection h
            rw [← hbe2, List.getElem?_map, hbs2] at hx
            cases hx
            have hlt := hmv.lt s i hs2 hin
            have hd6 : Rd H6 d (.dK (kvR rs)) := Rd.ex hd exH6
            have hpl6 := SqL.ex hp exH6
            have zlen := rzs.length
            rw [List.length_cons, List.length_map, List.length_map, List.length_range] at zlen
            refine ⟨_, rfl, _, rfl, c, ws, _, _, rfl, rfl, .of hc, atI_nat hw, ?_⟩
            refine ⟨p, _, rfl, .of hp2, rfl, _, _, rfl, _, _, rfl, rfl, ?_⟩
            have hparts : (parts.map vN)[(mvAt mv s i).1]? = some (vN (parts.getD (mvAt mv s i).1 0)) := by
              rw [List.getElem?_map, List.getElem?_eq_getElem (by omega), getD_at (List.getElem?_eq_getElem (by omega))]
              rfl
            have step : ∀ {v : V}, v = vO (moreF rs r (mvAt mv s i)) → ∀ t, H6 t = none → upd H6 t (.tup [vN (parts.getD (mvAt mv s i).1 0), v]) mk = some (.lst zs) ∧ Ex H3 (upd (upd H6 t (.tup [vN (parts.getD (mvAt mv s i).1 0), v])) mk (.lst (zs ++ [.ref t]))) ∧ ∃ zs', upd (upd H6 t (.tup [vN (parts.getD (mvAt mv s i).1 0), v])) mk (.lst (zs ++ [.ref t])) mk = some (.lst zs') ∧ NKs (upd (upd H6 t (.tup [vN (parts.getD (mvAt mv s i).1 0), v])) mk (.lst (zs ++ [.ref t]))) zs' (oNK g0 :: ((List.range (s + 1)).map fun s => (parts.getD (mvAt mv s i).1 0, moreF rs r (mvAt mv s i))).map pkK) := fun {v} e t ht => by
              have ext := Ex.new (o := .tup [vN (parts.getD (mvAt mv s i).1 0), v]) ht
              have h1 := ext _ _ hzs
              have tu := Tu.lst (o := .lst (zs ++ [.ref t])) h1
              refine ⟨h1, (ex6.trans ext).mut hmk, _, upd_same, ?_⟩
              rw [List.range_succ, List.map_append, List.map_append, ← List.cons_append]
              refine ((rzs.tu ext.tu).tu tu).app (.cons ?_ .nil)
              refine .tup (tu _ _ upd_same) (.cons (.int _) (.cons ?_ .nil))
              rw [e]
              exact nk_o _
            refine ⟨_, rfl, _, rfl, d, _, rfl, dget_R hd6 _, _, rfl, ?_⟩
            cases eto : rget rs (mvAt mv s i).1 with
            | none =>
              refine itT rfl ?_
              refine ⟨_, rfl, .inl ⟨rfl, zs, .of hzs⟩, ?_⟩
              refine ⟨_, rfl, _, rfl, pl, _, _, _, rfl, rfl, hpl6, atI_nat hparts, _, rfl, by simp [sizeLine], fun t ht => ?_⟩
              obtain ⟨h1, h2⟩ := step (v := .non) (by unfold moreF; rw [eto]; rfl) t ht
              exact ⟨mk, zs, _, rfl, rfl, h1, by simp [sizeLine]; omega, ⟨_, _, _, _, _, rfl⟩, h2⟩
            | some r2 =>
              refine itF Bool.false_ne_true ?_
              obtain ⟨w2, hw2⟩ := hgr s i hs2 hin r2 eto
              have hdt : DGet H6 d (vN (mvAt mv s i).1) (some (V.int r2)) := by
                have := dget_R hd6 (mvAt mv s i).1
                rw [eto] at this
                exact this
              have hdi6 : DGet H6 d (vN i) (some (V.int r)) := by
                have := dget_R hd6 i
                rw [er] at this
                exact this
              rw [hw2]
              refine ⟨_, rfl, _, rfl, _, rfl, d, _, rfl, hdt, _, _, rfl, rfl, _, rfl, _, rfl, d, _, rfl, hdi6, _, _, rfl, rfl, ?_⟩
              refine ⟨_, rfl, .inl ⟨rfl, zs, .of hzs⟩, ?_⟩
              refine ⟨_, rfl, _, rfl, pl, _, _, _, rfl, rfl, hpl6, atI_nat hparts, _, rfl, by simp [sizeLine], fun t ht => ?_⟩
              obtain ⟨h1, h2⟩ := step (v := .int (w2 + r2 - r)) (by unfold moreF; rw [eto, hw2]; rfl) t ht
              exact ⟨mk, zs, _, rfl, rfl, h1, by simp [sizeLine]; omega, ⟨_, _, _, _, _, rfl⟩, h2⟩
          · obtain ⟨⟨x8, x9, x10, x11, x12, rfl⟩, ex6, zs, hzs, rzs⟩ := hP
            rw [List.length_map, lb, ← em] at rzs
            refine ⟨_, rfl, .inl ⟨rfl, ys, .of (ex6 _ _ hl3)⟩, ?_⟩
            refine ⟨_, rfl, mk, zs, rfl, .inl ⟨.of hzs, fun t ht => ?_⟩⟩
            obtain ⟨f1, f2⟩ := fin ex6 ht rzs
            exact ⟨l, ys, _, rfl, rfl, f1, by simp [sizeLine]; omega, ⟨_, _, _, _, _, _, _, _, rfl⟩, f2⟩
    · obtain ⟨⟨x5, x6, x7, x8, x9, x10, x11, x12, rfl⟩, ex2, ys, hl2, rys⟩ := hP
      rw [List.take_of_length_le (by unfold marksF; rw [List.length_map, List.length_range]; omega)] at rys
      exact ⟨_, rfl, q l ys H2 hl ex2 hl2 rys⟩
end
end Cp
end

section
set_option Elab.async false
set_option linter.all false
/-! rests exist; the count of the parts grows -/
namespace Cp
theorem fget_app {fs gs : Fs} {i : Nat} {o : Option Nat} (h : fget fs i = some o) : fget (fs ++ gs) i = some o := by
  unfold fget at h ⊢
  rw [List.find?_append]
  rw [Option.map_eq_some_iff] at h
  obtain ⟨p, h1, h2⟩ := h
  rw [h1]
  simpa using h2
theorem fget_of {fs : Fs} {n : Nat} (h : FOk n fs) {p : Nat × Option Nat} (hp : p ∈ fs) : fget fs p.1 = some p.2 := by
  unfold fget
  have nd := h.nd
  clear h
  induction fs with
  | nil => cases hp
  | cons q fs ih =>
    rw [List.find?_cons]
    by_cases e : q.1 = p.1
    · rcases List.mem_cons.mp hp with rfl | hp
      · simp
      · rw [List.map_cons, List.nodup_cons] at nd
        exact absurd (List.mem_map.mpr ⟨p, hp, e.symm⟩) nd.1
    · rcases List.mem_cons.mp hp with rfl | hp
      · exact absurd rfl e
      · rw [List.map_cons, List.nodup_cons] at nd
        simp only [e, decide_false]
        exact ih hp nd.2
theorem RestIs.app {ss : List Row} {mv : List (List Mv)} {fs gs : Fs} {d i : Nat} {r : Int} (h : RestIs ss mv fs d i r) : RestIs ss mv (fs ++ gs) d i r := by
  induction h with
  | goal h1 h2 => exact .goal (fget_app h1) h2
  | step h1 h2 _ ih => exact .step (fget_app h1) h2 ih
/-- what leads to a goal grows by a number -/
def GrowOk (ss : List Row) (mv : List (List Mv)) (n : Nat) : Prop := ∀ k s i, s < mv.length → i < n → inF (fsK ss mv n k) (mvAt mv s i).1 = true → ∃ w, (mvAt mv s i).2 = some w
theorem fsL_mem {mv : List (List Mv)} {fs : Fs} {n : Nat} {p : Nat × Option Nat} (h : p ∈ fsL mv fs n) : p.1 < n ∧ inF fs p.1 = false ∧ ∃ s, p.2 = some s ∧ (stL mv fs p.1 mv.length).head? = some s := by
  unfold fsL at h
  rw [List.mem_flatMap] at h
  obtain ⟨i, hi, h⟩ := h
  rw [List.mem_range] at hi
  obtain ⟨h1, h2, h3⟩ := fsStep_mem h
  rw [h1]
  exact ⟨hi, h2, h3⟩
theorem stL_head {mv : List (List Mv)} {fs : Fs} {i s : Nat} (h : (stL mv fs i mv.length).head? = some s) : s < mv.length ∧ inF fs (mvAt mv s i).1 = true := by
  have := List.mem_of_mem_head? (Option.mem_def.mpr h)
  unfold stL at this
  rw [List.mem_filter, List.mem_range] at this
  exact this
theorem fsK_fs (ss : List Row) (mv : List (List Mv)) (n : Nat) : ∀ k, FsOk n mv.length (fsK ss mv n k)
  | 0 => ⟨(fs0_ok ss n).lt, fun p hp s e => by
    show s < mv.length
    have hp : p ∈ fs0 ss n := hp
    unfold fs0 at hp
    rw [List.mem_filterMap] at hp
    obtain ⟨i, _, h⟩ := hp
    split at h
    · cases h
      cases e
    · cases h⟩
  | k + 1 => by
    have ih := fsK_fs ss mv n k
    refine ⟨(fsK_ok ss mv n (k + 1)).lt, fun p hp s e => ?_⟩
    rcases List.mem_append.mp hp with hp | hp
    · exact ih.st p hp s e
    · obtain ⟨_, _, s', h1, h2⟩ := fsL_mem hp
      rw [h1] at e
      cases e
      exact (stL_head h2).1
theorem rest_ex {ss : List Row} {mv : List (List Mv)} {n : Nat} (g : GrowOk ss mv n) : ∀ k, ∀ p ∈ fsK ss mv n k, ∃ d r, RestIs ss mv (fsK ss mv n k) d p.1 r
  | 0, p, hp => by
    have h0 := fget_of (fs0_ok ss n) hp
    have hp : p ∈ fs0 ss n := hp
    unfold fs0 at hp
    rw [List.mem_filterMap] at hp
    obtain ⟨i, _, h⟩ := hp
    split at h
    · next hs =>
      cases h
      obtain ⟨v, hv⟩ := Option.isSome_iff_exists.mp hs
      exact ⟨0, v, .goal h0 hv⟩
    · cases h
  | k + 1, p, hp => by
    have h0 := fget_of (fsK_ok ss mv n (k + 1)) hp
    rcases List.mem_append.mp hp with hp | hp
    · obtain ⟨d, r, h⟩ := rest_ex g k p hp
      exact ⟨d, r, h.app⟩
    · obtain ⟨hlt, _, s, h1, h2⟩ := fsL_mem hp
      obtain ⟨h3, h4⟩ := stL_head h2
      obtain ⟨q, hq, hqe⟩ := List.mem_map.mp (inF_iff.mp h4)
      obtain ⟨d, r, h⟩ := rest_ex g k q hq
      obtain ⟨w, hw⟩ := g k s p.1 h3 hlt h4
      rw [h1] at h0
      rw [hqe] at h
      exact ⟨d + 1, w + r, .step h0 (Prod.ext rfl hw) h.app⟩
noncomputable def restOf (ss : List Row) (mv : List (List Mv)) (fs : Fs) (i : Nat) : Int := open Classical in if h : ∃ r d, RestIs ss mv fs d i r then Classical.choose h else 0
theorem restOf_is {ss : List Row} {mv : List (List Mv)} {fs : Fs} {d i : Nat} {r : Int} (h : RestIs ss mv fs d i r) : ∃ d, RestIs ss mv fs d i (restOf ss mv fs i) := by
  have h2 : ∃ r d, RestIs ss mv fs d i r := ⟨r, d, h⟩
  unfold restOf
  rw [dif_pos h2]
  exact Classical.choose_spec h2
noncomputable def rsOf (ss : List Row) (mv : List (List Mv)) (fs : Fs) : Rs := fs.map fun p => (p.1, restOf ss mv fs p.1)
/-! ### once -/
theorem once_go : ∀ (ms l : List Mark), l.Nodup → (ms.foldl (fun l x => if x ∈ l then l else l ++ [x]) l).Nodup ∧ ∀ x, x ∈ ms.foldl (fun l x => if x ∈ l then l else l ++ [x]) l ↔ x ∈ l ∨ x ∈ ms
  | [], l, h => ⟨h, by simp⟩
  | m :: ms, l, h => by
    rw [List.foldl_cons]
    split
    · next hm =>
      obtain ⟨h1, h2⟩ := once_go ms l h
      refine ⟨h1, fun x => ?_⟩
      rw [h2, List.mem_cons]
      constructor
      · rintro (h | h)
        · exact .inl h
        · exact .inr (.inr h)
      · rintro (h | rfl | h)
        · exact .inl h
        · exact .inl hm
        · exact .inr h
    · next hm =>
      obtain ⟨h1, h2⟩ := once_go ms (l ++ [m]) (by
        rw [List.nodup_append]
        refine ⟨h, by simp, fun x hx y hy e => ?_⟩
        rw [List.mem_singleton.mp hy] at e
        exact hm (e ▸ hx))
      refine ⟨h1, fun x => ?_⟩
      rw [h2, List.mem_cons, List.mem_append, List.mem_singleton, or_assoc]
theorem once_nodup (ms : List Mark) : (onceF ms).Nodup := (once_go ms [] (by simp)).1
theorem once_mem {ms : List Mark} {x : Mark} : x ∈ onceF ms ↔ x ∈ ms := by
  have := (once_go ms [] (by simp)).2 x
  unfold onceF
  rw [this]
  simp
theorem once_snoc (ms : List Mark) (x : Mark) : onceF (ms ++ [x]) = if x ∈ onceF ms then onceF ms else onceF ms ++ [x] := by
  unfold onceF
  rw [List.foldl_append]
  rfl
theorem once_len (ms : List Mark) : (onceF ms).length ≤ ms.length := nodup_le (once_nodup ms) fun x hx => once_mem.mp hx
/-- finer lists have more distinct items -/
theorem once_finer {as bs : List Mark} (hl : as.length = bs.length) (hf : ∀ (i j : Nat) (hi : i < bs.length) (hj : j < bs.length), bs[i] = bs[j] → as[i]? = as[j]?) : (onceF as).length ≤ (onceF bs).length ∧
    ((onceF as).length = (onceF bs).length → ∀ (i j : Nat) (hi : i < bs.length) (hj : j < bs.length), as[i]? = as[j]? → bs[i] = bs[j]) := by
  -- the first place of each
  let g : Mark → Mark := fun a => bs.getD (as.idxOf a) none
  have hg : ∀ a ∈ as, ∃ h : as.idxOf a < bs.length, g a = bs[as.idxOf a] ∧ as[as.idxOf a]? = some a := fun a ha => by
    have h1 := List.idxOf_lt_length_of_mem ha
    refine ⟨by omega, ?_, ?_⟩
    · show bs.getD _ none = _
      rw [List.getD_eq_getElem?_getD, List.getElem?_eq_getElem (by omega)]
      rfl
    · rw [List.getElem?_eq_getElem h1, List.getElem_idxOf]
  have inj : ∀ a ∈ as, ∀ b ∈ as, g a = g b → a = b := fun a ha b hb e => by
    obtain ⟨h1, h2, h3⟩ := hg a ha
    obtain ⟨h4, h5, h6⟩ := hg b hb
    have := hf _ _ h1 h4 (by rw [← h2, ← h5, e])
    rw [h3, h6] at this
    exact Option.some.inj this
  have nd : ((onceF as).map g).Nodup := by
    have := once_nodup as
    have hm : ∀ x ∈ onceF as, x ∈ as := fun x hx => once_mem.mp hx
    generalize onceF as = l at this hm
    induction l with
    | nil => simp
    | cons x l ih =>
      rw [List.map_cons, List.nodup_cons]
      rw [List.nodup_cons] at this
      refine ⟨fun hx => ?_, ih this.2 fun y hy => hm y (List.mem_cons_of_mem _ hy)⟩
      obtain ⟨y, hy, e⟩ := List.mem_map.mp hx
      have := inj y (hm y (List.mem_cons_of_mem _ hy)) x (hm x (List.mem_cons_self ..)) e
      subst this
      exact absurd hy (by simp_all)
  have sub : ∀ x ∈ (onceF as).map g, x ∈ onceF bs := fun x hx => by
    obtain ⟨a, ha, rfl⟩ := List.mem_map.mp hx
    obtain ⟨h1, h2, _⟩ := hg a (once_mem.mp ha)
    rw [once_mem, h2]
    exact List.getElem_mem _
  refine ⟨by have := nodup_le nd sub; rwa [List.length_map] at this, fun he i j hi hj e => ?_⟩
  have all : ∀ x ∈ onceF bs, x ∈ (onceF as).map g := fun x hx => by
    apply Classical.byContradiction
    intro hn
    have := nodup_le (l := x :: (onceF as).map g) (l' := onceF bs) (List.nodup_cons.mpr ⟨hn, nd⟩) fun y hy => by
      rcases List.mem_cons.mp hy with rfl | hy
      · exact hx
      · exact sub y hy
    rw [List.length_cons, List.length_map] at this
    omega
  have key : ∀ (k : Nat) (hk : k < bs.length), ∃ a, as[k]? = some a ∧ bs[k] = g a := fun k hk => by
    obtain ⟨a, ha, e⟩ := List.mem_map.mp (all bs[k] (once_mem.mpr (List.getElem_mem hk)))
    obtain ⟨h1, h2, h3⟩ := hg a (once_mem.mp ha)
    refine ⟨a, ?_, e.symm⟩
    rw [hf k _ hk h1 (by rw [← h2, e])]
    exact h3
  obtain ⟨a, h1, h2⟩ := key i hi
  obtain ⟨b, h3, h4⟩ := key j hj
  rw [h1, h3] at e
  rw [h2, h4, Option.some.inj e]
/-! ### the parts -/
section
variable {ss : List Row} {mv : List (List Mv)} {rs : Rs} {n : Nat}
abbrev msK (ss : List Row) (mv : List (List Mv)) (rs : Rs) (n k : Nat) : List Mark := marksF ss mv rs (partsK ss mv rs n k) n
theorem ms_len (parts : List Nat) : (marksF ss mv rs parts n).length = n := by unfold marksF; simp
theorem ms_at {parts : List Nat} {i : Nat} (h : i < n) : (marksF ss mv rs parts n)[i]? = some (markF ss mv rs parts i) := by
  unfold marksF
  rw [List.getElem?_map, List.getElem?_range h]
  rfl
theorem parts_len : ∀ k, (partsK ss mv rs n k).length = n
  | 0 => by simp [partsK]
  | k + 1 => by simp [partsK, ms_len]
theorem parts_at {k i : Nat} (h : i < n) : (partsK ss mv rs n (k + 1)).getD i 0 = (onceF (msK ss mv rs n k)).idxOf (markF ss mv rs (partsK ss mv rs n k) i) := by
  rw [List.getD_eq_getElem?_getD]
  show ((List.map _ _)[i]?).getD 0 = _
  rw [List.getElem?_map, ms_at h]
  rfl
/-- the same part: the same mark -/
theorem parts_iff {k i j : Nat} (hi : i < n) (hj : j < n) : (partsK ss mv rs n (k + 1)).getD i 0 = (partsK ss mv rs n (k + 1)).getD j 0 ↔ markF ss mv rs (partsK ss mv rs n k) i = markF ss mv rs (partsK ss mv rs n k) j := by
  rw [parts_at hi, parts_at hj]
  constructor
  · intro e
    have h1 : markF ss mv rs (partsK ss mv rs n k) i ∈ onceF (msK ss mv rs n k) := once_mem.mpr (List.mem_of_getElem? (ms_at hi))
    have h2 : markF ss mv rs (partsK ss mv rs n k) j ∈ onceF (msK ss mv rs n k) := once_mem.mpr (List.mem_of_getElem? (ms_at hj))
    have e1 := List.getElem_idxOf (List.idxOf_lt_length_of_mem h1)
    have e2 := List.getElem_idxOf (List.idxOf_lt_length_of_mem h2)
    rw [← e1, ← e2]
    congr 1
  · intro e
    rw [e]
/-- two marks are the same if what they are made of is -/
theorem mark_ext {parts parts' : List Nat} {i j : Nat} (h : markF ss mv rs parts' i = markF ss mv rs parts' j) (hp : ∀ s, s < mv.length → parts'.getD (mvAt mv s i).1 0 = parts'.getD (mvAt mv s j).1 0 → parts.getD (mvAt mv s i).1 0 = parts.getD (mvAt mv s j).1 0) : markF ss mv rs parts i = markF ss mv rs parts j := by
  unfold markF at h ⊢
  cases e1 : rget rs i with
  | none =>
    rw [e1] at h
    cases e2 : rget rs j with
    | none => rfl
    | some r2 => rw [e2] at h; cases h
  | some r1 =>
    rw [e1] at h
    cases e2 : rget rs j with
    | none => rw [e2] at h; cases h
    | some r2 =>
      rw [e2] at h
      simp only [Option.some.injEq, Prod.mk.injEq] at h ⊢
      refine ⟨h.1, ?_⟩
      have h2 := h.2
      refine List.map_congr_left fun s hs => ?_
      have h3 := List.map_inj_left.mp h2 s hs
      rw [List.mem_range] at hs
      simp only [Prod.mk.injEq] at h3 ⊢
      exact ⟨hp s hs h3.1, h3.2⟩
theorem mark_back (hlt : ∀ s i, s < mv.length → i < n → (mvAt mv s i).1 < n) : ∀ (k : Nat) {i j : Nat}, i < n → j < n → markF ss mv rs (partsK ss mv rs n (k + 1)) i = markF ss mv rs (partsK ss mv rs n (k + 1)) j → markF ss mv rs (partsK ss mv rs n k) i = markF ss mv rs (partsK ss mv rs n k) j
  | 0, i, j, hi, hj, h => mark_ext h fun s hs _ => by
    show (List.replicate n 0).getD _ 0 = (List.replicate n 0).getD _ 0
    rw [List.getD_eq_getElem?_getD, List.getD_eq_getElem?_getD, List.getElem?_replicate, List.getElem?_replicate]
    split <;> split <;> rfl
  | k + 1, i, j, hi, hj, h => mark_ext h fun s hs e => by
    have h1 := hlt s i hs hi
    have h2 := hlt s j hs hj
    rw [parts_iff h1 h2]
    exact mark_back hlt k h1 h2 ((parts_iff h1 h2).mp e)
theorem cnt_le (k : Nat) : cntK ss mv rs n k ≤ n := by
  cases k with
  | zero => exact Nat.zero_le _
  | succ k =>
    have := once_len (msK ss mv rs n k)
    rwa [ms_len] at this
theorem cnt_mono (hlt : ∀ s i, s < mv.length → i < n → (mvAt mv s i).1 < n) (k : Nat) : cntK ss mv rs n k ≤ cntK ss mv rs n (k + 1) := by
  cases k with
  | zero => exact Nat.zero_le _
  | succ k =>
    refine (once_finer (as := msK ss mv rs n k) (bs := msK ss mv rs n (k + 1)) (by rw [ms_len, ms_len]) fun i j hi hj e => ?_).1
    rw [ms_len] at hi hj
    rw [ms_at hi, ms_at hj]
    have e1 : markF ss mv rs (partsK ss mv rs n (k + 1)) i = markF ss mv rs (partsK ss mv rs n (k + 1)) j := by
      have h1 := ms_at (ss := ss) (mv := mv) (rs := rs) (parts := partsK ss mv rs n (k + 1)) hi
      have h2 := ms_at (ss := ss) (mv := mv) (rs := rs) (parts := partsK ss mv rs n (k + 1)) hj
      rw [List.getElem?_eq_getElem (by rw [ms_len]; exact hi)] at h1
      rw [List.getElem?_eq_getElem (by rw [ms_len]; exact hj)] at h2
      rw [← Option.some.inj h1, ← Option.some.inj h2]
      exact e
    rw [mark_back hlt k hi hj e1]
/-- stable: parts are as marks -/
theorem cnt_stable (hlt : ∀ s i, s < mv.length → i < n → (mvAt mv s i).1 < n) {k : Nat} (h : cntK ss mv rs n (k + 1) = cntK ss mv rs n k) {i j : Nat} (hi : i < n) (hj : j < n) (e : (partsK ss mv rs n k).getD i 0 = (partsK ss mv rs n k).getD j 0) : (partsK ss mv rs n (k + 1)).getD i 0 = (partsK ss mv rs n (k + 1)).getD j 0 := by
  cases k with
  | zero =>
    exfalso
    have h1 : (onceF (msK ss mv rs n 0)).length = 0 := h
    have h2 : markF ss mv rs (partsK ss mv rs n 0) i ∈ onceF (msK ss mv rs n 0) := once_mem.mpr (List.mem_of_getElem? (ms_at hi))
    rw [List.length_eq_zero_iff] at h1
    rw [h1] at h2
    cases h2
  | succ k =>
    have st := (once_finer (as := msK ss mv rs n k) (bs := msK ss mv rs n (k + 1)) (by rw [ms_len, ms_len]) fun i j hi hj e => by
      rw [ms_len] at hi hj
      rw [ms_at hi, ms_at hj]
      have e1 : markF ss mv rs (partsK ss mv rs n (k + 1)) i = markF ss mv rs (partsK ss mv rs n (k + 1)) j := by
        have h1 := ms_at (ss := ss) (mv := mv) (rs := rs) (parts := partsK ss mv rs n (k + 1)) hi
        have h2 := ms_at (ss := ss) (mv := mv) (rs := rs) (parts := partsK ss mv rs n (k + 1)) hj
        rw [List.getElem?_eq_getElem (by rw [ms_len]; exact hi)] at h1
        rw [List.getElem?_eq_getElem (by rw [ms_len]; exact hj)] at h2
        rw [← Option.some.inj h1, ← Option.some.inj h2]
        exact e
      rw [mark_back hlt k hi hj e1]).2 h.symm i j (by rw [ms_len]; exact hi) (by rw [ms_len]; exact hj) (by
        rw [ms_at hi, ms_at hj, (parts_iff hi hj).mp e])
    rw [parts_iff hi hj]
    have h1 := ms_at (ss := ss) (mv := mv) (rs := rs) (parts := partsK ss mv rs n (k + 1)) hi
    have h2 := ms_at (ss := ss) (mv := mv) (rs := rs) (parts := partsK ss mv rs n (k + 1)) hj
    rw [List.getElem?_eq_getElem (by rw [ms_len]; exact hi)] at h1
    rw [List.getElem?_eq_getElem (by rw [ms_len]; exact hj)] at h2
    rw [← Option.some.inj h1, ← Option.some.inj h2]
    exact st
end
end Cp
end

section
set_option Elab.async false
set_option linter.all false
set_option maxRecDepth 100000
set_option maxHeartbeats 4000000
namespace Cp
open PySem PySem.Spec PyProof.Rows L2
/-- the marks with their numbers -/
def knO : List Mark → Nat → List (NestedKey × V)
  | [], _ => []
  | x :: l, o => (mkK x, vN o) :: knO l (o + 1)
theorem knO_snoc (x : Mark) : ∀ (l : List Mark) (o : Nat), knO (l ++ [x]) o = knO l o ++ [(mkK x, vN (o + l.length))]
  | [], o => rfl
  | y :: l, o => by
    rw [List.cons_append, knO, knO_snoc x l (o + 1), knO, List.cons_append, List.length_cons, show o + 1 + l.length = o + (l.length + 1) by omega]
theorem knO_len : ∀ (l : List Mark) (o : Nat), (knO l o).length = l.length
  | [], _ => rfl
  | x :: l, o => by rw [knO, List.length_cons, List.length_cons, knO_len l]
theorem knO_look (y : Mark) : ∀ (l : List Mark) (o : Nat), lookN (knO l o) (mkK y) = if y ∈ l then some (vN (o + l.idxOf y)) else none
  | [], o => rfl
  | x :: l, o => by
    have ih := knO_look y l (o + 1)
    unfold lookN at ih ⊢
    rw [knO, List.find?_cons, List.idxOf_cons]
    by_cases e : x = y
    · subst e
      simp
    · have h1 : ¬ mkK x = mkK y := fun z => e (mkK_inj z)
      have h2 : ¬ y = x := fun z => e z.symm
      simp only [h1, decide_false, List.mem_cons, h2, false_or]
      rw [ih]
      have h3 : (x == y) = false := by simpa using e
      rw [h3]
      by_cases hm : y ∈ l
      · rw [if_pos hm, if_pos hm]
        show some (vN _) = some (vN (o + (l.idxOf y + 1)))
        congr 2
        omega
      · rw [if_neg hm, if_neg hm]
theorem kvR_put {rs : Rs} {i : Nat} {r : Int} (h : rget rs i = none) : putK (kvR rs) (Sum.inl (i : Int)) (V.int r) = kvR (rs ++ [(i, r)]) := by
  have h1 : ((kvR rs).any fun kv => decide (kv.1 = Sum.inl (i : Int))) = false := by
    rw [List.any_eq_false]
    intro kv hkv
    have h2 := kvR_val rs i
    rw [h] at h2
    unfold valV at h2
    have h3 : (kvR rs).find? (fun kv => decide (kv.1 = Sum.inl (i : Int))) = none := by simpa using h2
    rw [List.find?_eq_none] at h3
    exact h3 kv hkv
  unfold putK
  rw [if_neg (by rw [h1]; exact Bool.false_ne_true)]
  unfold kvR
  simp
theorem rget_map (f : Nat → Int) : ∀ (fs : Fs) (i : Nat), rget (fs.map fun p => (p.1, f p.1)) i = if inF fs i then some (f i) else none
  | [], i => rfl
  | p :: fs, i => by
    have ih := rget_map f fs i
    unfold rget at ih ⊢
    rw [List.map_cons, List.find?_cons]
    show _ = if (decide (p.1 = i) || inF fs i) = true then _ else _
    by_cases e : p.1 = i
    · simp [e]
    · simp only [e, decide_false, Bool.false_or]
      exact ih
section
variable {H : Hp} {d : Addr} {kvs : List (Key × V)} {o : HO}
theorem OrV.lock {a : Addr} {order : List Ent} (h : OrV H a order) (hd : H d = some (.dK kvs)) : OrV (upd H d o) a order := by
  obtain ⟨xs, h1, h2⟩ := h
  exact ⟨xs, by rw [upd_ne (fun e => by rw [e, hd] at h1; cases h1)]; exact h1, h2.tu (Tu.dK hd)⟩
theorem MvV.lock {a : Addr} {mv : List (List Mv)} (h : MvV H a mv) (hd : H d = some (.dK kvs)) : MvV (upd H d o) a mv := by
  obtain ⟨as, h1, h2⟩ := h
  exact ⟨as, by rw [upd_ne (fun e => by rw [e, hd] at h1; cases h1)]; exact h1, pair_mapP h2 fun b row ⟨xs, g1, g2⟩ => ⟨xs, by rw [upd_ne (fun e => by rw [e, hd] at g1; cases g1)]; exact g1, g2.tu (Tu.dK hd)⟩⟩
/-- behind a lock -/
theorem Ex.unlock {H1 H' : Hp} {u f : HO} (h : H1 d = some u) (e : Ex (upd H1 d f) H') : Ex H1 (upd H' d u) := fun c x q => by
  by_cases hc : c = d
  · subst hc
    rw [upd_same, ← q, h]
  · rw [upd_ne hc]
    exact e c x (by rw [upd_ne hc]; exact q)
end
section
variable {P : Program} {w : World} {K : PySem.W.Frag} {mg : Str → Option Value} {base : Heap}
/-! parts_of -/
def sp_parts_of : Sp := fun vs H Q _ => ∃ (a b : Addr) (order : List Ent) (mv : List (List Mv)), vs = [.ref a, .ref b] ∧ OrV H a order ∧ MvV H b mv ∧ (∀ e ∈ order, 1 ≤ e.1.length) ∧ MvOk order.length mv ∧ GrowOk (order.map (·.1)) mv order.length ∧ order.length ≤ 1000 ∧ mv.length ≤ 100000 ∧
  ∀ (k j : Nat) (l : Addr) (H' : Hp), Ex H H' → fsL mv (fsK (order.map (·.1)) mv order.length k) order.length = [] →
    cntK (order.map (·.1)) mv (rsOf (order.map (·.1)) mv (fsK (order.map (·.1)) mv order.length k)) order.length (j + 1) = cntK (order.map (·.1)) mv (rsOf (order.map (·.1)) mv (fsK (order.map (·.1)) mv order.length k)) order.length j →
    H' l = some (.lst ((partsK (order.map (·.1)) mv (rsOf (order.map (·.1)) mv (fsK (order.map (·.1)) mv order.length k)) order.length (j + 1)).map vN)) → Q (.ref l) H'
theorem ok_parts_of (T : Tx mg) (D : Def K mg "parts_of" s_parts_of) (C_first_steps : Cal P w K mg base CX0 "first_steps" 1 ["order", "moves"] sp_first_steps) (C_first_rest : Cal P w K mg base CX0 "first_rest" 1 ["order", "moves", "firsts", "number"] sp_first_rest)
    (C_marks_of : Cal P w K mg base CX0 "marks_of" 1 ["order", "moves", "rests", "parts"] (sp_marks_of K)) : Cal P w K mg base CX0 "parts_of" 2 ["order", "moves"] sp_parts_of := by
  obtain ⟨f, fd, F, hm⟩ := D.ex
  refine ⟨f, fd, F.ok sc_parts_of (fun vs H Q E h => ?_) (fun cdv A outer s H vs Q E hr h => ?_), hm, F.kp, F.binds fun _ _ _ _ _ _ us hl => match us, hl with | [_, _], _ => rfl⟩
  · obtain ⟨a, b, order, mv, rfl, _⟩ := h
    rfl
  · obtain ⟨a, b, order, mv, rfl, hO, hV, hl1, hmv, hgr, h1000, hmz, q⟩ := h
    refine ⟨_, (pss_cons (ps_set (i := 2) sc_parts_of.nd rfl (by first | exact .inl rfl | exact .inr rfl) (pe_cal C_first_steps (by first | exact hr | exact hr.mono (by decide)) (by rfl) pass0 (pa_cons (pv 0) (pa_cons (pv 1) pa_nil))))
  (pss_cons (ps_lock (ps_setDc (i := 3) (own := [("number", 9)])  rfl sc_parts_of.nd rfl rfl (swd_true rfl rfl rfl (by decide +kernel)) (pi_keys (pv 2)) (blkOk_by (own := [("number", 9)]) (N := ["order", "moves", "firsts", "rests", "parts", "many", "known", "marks", "mark", "number"]) (sc := defScope s_parts_of) (by decide +kernel)) (fun _ _ _ _ _ => (pg_name (i := 9) sc_parts_of.nd rfl (by first | exact .inl rfl | exact .inr rfl))) (fun _ _ _ _ _ => pts_nil) (fun _ _ _ _ _ => (pv 9)) (fun _ _ _ _ _ => (pe_cal C_first_rest (by first | exact hr | exact hr.mono (by decide)) (by rfl) pass0 (pa_cons (pv 0) (pa_cons (pv 1) (pa_cons (pv 2) (pa_cons (pv 9) pa_nil))))))))
  (pss_cons (ps_par (i := 4) (j := 5) rfl sc_parts_of.nd rfl rfl (by decide) rfl rfl (pa_cons (pe_op op_rep (pe_lst (pa_cons pe_int pa_nil)) (pe_callB (kc_len K) (by rfl) T.len boot_len (pa_cons (pv 0) pa_nil))) (pa_cons pe_int pa_nil)) (by rfl))
  (pss_one (ps_while PassesOwn.never (pt_val pe_bl)
  (pss_cons (ps_asg (pe_tup (pa_cons pe_nnew (pa_cons (pe_cal C_marks_of (by first | exact hr | exact hr.mono (by decide)) (by rfl) pass0 (pa_cons (pv 0) (pa_cons (pv 1) (pa_cons (pv 3) (pa_cons (pv 4) pa_nil))))) pa_nil))) (kg_tup K (n := 2) rfl (pgs_cons (pg_name (i := 6) sc_parts_of.nd rfl (by first | exact .inl rfl | exact .inr rfl)) (pgs_cons (pg_name (i := 7) sc_parts_of.nd rfl (by first | exact .inl rfl | exact .inr rfl)) pgs_nil))))
  (pss_cons (ps_for PassesOwn.never rfl (ki_list K (pv 7)) (pg_name (i := 8) sc_parts_of.nd rfl (by first | exact .inl rfl | exact .inr rfl))
  (pss_one (ps_expr (pe_nsetd (hu9 hr) (pv 6) (pv 8) (pe_callB call_lenN (by rfl) T.len boot_len (pa_cons (pv 6) pa_nil)) ⟨rfl, rfl, rfl, rfl⟩))))
  (pss_cons (ps_setLc (i := 4) (own := [("mark", 8)]) rfl sc_parts_of.nd rfl rfl (sw_true rfl rfl rfl (by decide +kernel)) (ki_list K (pv 7)) (blkOk_by (own := [("mark", 8)]) (N := ["order", "moves", "firsts", "rests", "parts", "many", "known", "marks", "mark", "number"]) (sc := defScope s_parts_of) (by decide +kernel)) (fun _ _ _ _ _ => (pg_name (i := 8) sc_parts_of.nd rfl (by first | exact .inl rfl | exact .inr rfl))) (fun _ _ _ _ _ => pts_nil) (fun _ _ _ _ _ => (kn_get P w (hu9 hr) (pv 6) (pv 8) (fun _ _ => rfl))))
  (pss_cons (ps_if (pt_cmpR op_eq (pe_callB call_lenN (by rfl) T.len boot_len (pa_cons (pv 6) pa_nil)) (pv 5) (nomark _)) (pss_one (ps_ret (pv 4))) pss_nil)
  (pss_one (ps_set (i := 5) sc_parts_of.nd rfl (by first | exact .inl rfl | exact .inr rfl) (pe_callB call_lenN (by rfl) T.len boot_len (pa_cons (pv 6) pa_nil))))))))))))), ?_⟩
    refine ⟨_, rfl, _, rfl, a, b, order, mv, rfl, hO, hV, hl1, hmv.row, h1000, hmz, fun k d H1 ex1 hfin hd => ?_⟩
    have fok := fsK_ok (order.map (·.1)) mv order.length k
    have fsok := fsK_fs (order.map (·.1)) mv order.length k
    have rex := rest_ex hgr k
    have gk := hgr k
    replace q := fun j l H' => q k j l H' 
    generalize fsK (order.map (·.1)) mv order.length k = fs at *
    -- the rests
    refine ⟨d, _, hd, trivial, fun od => ?_⟩
    have hO1 : OrV (upd H1 d (.frz od (.dK (kvF fs)))) a order := (hO.ex ex1).lock hd
    have hV1 : MvV (upd H1 d (.frz od (.dK (kvF fs)))) b mv := (hV.ex ex1).lock hd
    have hd1 : upd H1 d (.frz od (.dK (kvF fs))) d = some (.frz od (.dK (kvF fs))) := upd_same
    refine ⟨_, rfl, d, od, rfl, .inl ⟨_, hd1, fun rd hrd => ?_⟩⟩
    refine dc_it walk_keys (fun i H' => Ex (upd H1 d (.frz od (.dK (kvF fs)))) H' ∧ H' rd = some (.dK (kvR ((rsOf (order.map (·.1)) mv fs).take i)))) ⟨Ex.new hrd, upd_same⟩ (fun i H' _ hP => hP.1 _ _ hd1) (fun i x _ H2 hi hP hy => ?_) (fun H2 hP => ?_)
    · obtain ⟨rfl, k1, v1, hk1, rfl⟩ := hy
      obtain ⟨ex2, hr2⟩ := hP
      rw [kvF_len] at hi
      unfold kvF at hk1
      rw [List.getElem?_map, List.getElem?_eq_getElem hi] at hk1
      simp at hk1
      obtain ⟨rfl, rfl⟩ := hk1
      obtain ⟨dp, r, hrest⟩ := rex fs[i] (List.getElem_mem hi)
      obtain ⟨dp2, hrest2⟩ := restOf_is hrest
      have hrs : (rsOf (order.map (·.1)) mv fs)[i]? = some (fs[i].1, restOf (order.map (·.1)) mv fs fs[i].1) := by
        unfold rsOf
        rw [List.getElem?_map, List.getElem?_eq_getElem hi]
        rfl
      refine ⟨rfl, ?_⟩
      refine ⟨_, rfl, _, rfl, _, rfl, _, rfl, _, rfl, a, b, d, order, mv, fs, dp2, fs[i].1, _, rfl, hO1.ex ex2, hV1.ex ex2, .inr ⟨od, ex2 _ _ hd1⟩, hl1, hmv.row, fsok, hrest2, ?_⟩
      have flen := fok.len
      refine ⟨_, Sum.inl (fs[i].1 : Int), rfl, hr2, ?_, ex2.mut hrd, ?_⟩
      · unfold kvR
        rw [List.length_map, List.length_take]
        simp [sizeLine]
        omega
      · rw [upd_same, List.take_succ, hrs]
        rw [kvR_put]
        · rfl
        · have e : (rsOf (order.map (·.1)) mv fs).take i = (fs.take i).map fun p => (p.1, restOf (order.map (·.1)) mv fs p.1) := by
            unfold rsOf
            rw [List.map_take]
          rw [e, rget_map]
          have : inF (fs.take i) fs[i].1 = false := by
            cases q2 : inF (fs.take i) fs[i].1 with
            | false => rfl
            | true =>
              have nd := fok.nd
              rw [← List.take_append_drop i fs, List.map_append, List.nodup_append] at nd
              exact absurd rfl (nd.2.2 _ (inF_iff.mp q2) _ (List.mem_map.mpr ⟨fs[i], by rw [List.drop_eq_getElem_cons hi]; exact List.mem_cons_self .., rfl⟩))
          rw [this]
          rfl
    · obtain ⟨ex2, hr2⟩ := hP
      rw [kvF_len, List.take_of_length_le (by unfold rsOf; simp)] at hr2
      have hd2 := ex2 _ _ hd1
      refine ⟨hd2, ?_⟩
      have nrd : rd ≠ d := fun e => by rw [e, hd1] at hrd; cases hrd
      have exu : Ex H1 (upd H2 d (.dK (kvF fs))) := Ex.unlock hd ex2
      have hr3 : upd H2 d (.dK (kvF fs)) rd = some (.dK (kvR (rsOf (order.map (·.1)) mv fs))) := by rw [upd_ne nrd]; exact hr2
      generalize upd H2 d (.dK (kvF fs)) = H3 at exu hr3
      have ex3 := ex1.trans exu
      have grs : GrOk order.length mv (rsOf (order.map (·.1)) mv fs) := fun s i hs hi r hr => by
        refine gk s i hs hi ?_
        unfold rsOf at hr
        rw [rget_map] at hr
        cases q2 : inF fs (mvAt mv s i).1 with
        | true => rfl
        | false =>
          rw [q2] at hr
          cases hr
      generalize rsOf (order.map (·.1)) mv fs = rs at *
      obtain ⟨xs, hxs, rxs⟩ := id hO
      have lx : xs.length = order.length := by rw [rxs.length, List.length_map]
      -- parts = [0] * n
      refine ⟨by simp [sizeLine], fun z hz => ?_⟩
      have exz := Ex.new (o := .lst [.int 0]) hz
      refine ⟨_, rfl, a, xs, rfl, .inl (.of ((ex3.trans exz) _ _ hxs)), ?_⟩
      refine ⟨z, _, _, rfl, rfl, upd_same, by omega, by omega, by simp [sizeLine]; omega, fun pl hpl => ?_⟩
      refine ⟨_, _, rfl, ?_⟩
      have ex4 := (ex3.trans exz).newT (o := .lst (List.replicate ((xs.length : Int)).toNat [V.int 0]).flatten) hpl
      have hr4 := (exz.newT (o := .lst (List.replicate ((xs.length : Int)).toNat [V.int 0]).flatten) hpl) _ _ hr3
      have hp4 : upd (upd H3 z (.lst [.int 0])) pl (.lst (List.replicate ((xs.length : Int)).toNat [V.int 0]).flatten) pl = some (.lst ((partsK (order.map (·.1)) mv rs order.length 0).map vN)) := by
        rw [upd_same, Int.toNat_natCast, lx]
        unfold partsK
        rw [List.map_replicate]
        simp
      generalize upd (upd H3 z (.lst [.int 0])) pl (.lst (List.replicate ((xs.length : Int)).toNat [V.int 0]).flatten) = H4 at ex4 hr4 hp4
      -- the rounds
      refine ⟨fun m σ H' => ∃ (j : Nat) (pl : Addr), (∃ x6 x7 x8 x9, σ = [some (.ref a), some (.ref b), some (.ref d), some (.ref rd), some (.ref pl), some (vN (cntK (order.map (·.1)) mv rs order.length j)), x6, x7, x8, x9]) ∧ Ex H H' ∧ H' rd = some (.dK (kvR rs)) ∧ H' pl = some (.lst ((partsK (order.map (·.1)) mv rs order.length j).map vN)) ∧ m = order.length - cntK (order.map (·.1)) mv rs order.length j,
        ⟨_, 0, pl, ⟨_, _, _, _, rfl⟩, ex4, hr4, hp4, rfl⟩, ?_⟩
      rintro m σ H5 ⟨j, pl5, ⟨x6, x7, x8, x9, rfl⟩, ex5, hr5, hp5, rfl⟩
      refine ⟨_, rfl, ?_⟩
      refine itT rfl ?_
      have cm := cnt_mono (ss := order.map (·.1)) (rs := rs) hmv.lt j
      have cl := cnt_le (ss := order.map (·.1)) (mv := mv) (rs := rs) (n := order.length) (j + 1)
      have hcs : cntK (order.map (·.1)) mv rs order.length (j + 1) = (onceF (marksF (order.map (·.1)) mv rs (partsK (order.map (·.1)) mv rs order.length j) order.length)).length := rfl
      have hps : partsK (order.map (·.1)) mv rs order.length (j + 1) = (marksF (order.map (·.1)) mv rs (partsK (order.map (·.1)) mv rs order.length j) order.length).map fun x => (onceF (marksF (order.map (·.1)) mv rs (partsK (order.map (·.1)) mv rs order.length j) order.length)).idxOf x := rfl
      refine ⟨fun σ' H' => ∃ pl : Addr, (∃ x6 x7 x8 x9, σ' = [some (.ref a), some (.ref b), some (.ref d), some (.ref rd), some (.ref pl), some (vN (cntK (order.map (·.1)) mv rs order.length (j + 1))), x6, x7, x8, x9]) ∧ Ex H H' ∧ H' rd = some (.dK (kvR rs)) ∧ H' pl = some (.lst ((partsK (order.map (·.1)) mv rs order.length (j + 1)).map vN)) ∧ cntK (order.map (·.1)) mv rs order.length (j + 1) ≠ cntK (order.map (·.1)) mv rs order.length j, fun σ' H' n => ?_, ?_⟩
      · obtain ⟨pl, h1, h2, h3, h4, h5⟩ := n
        exact ⟨order.length - cntK (order.map (·.1)) mv rs order.length (j + 1), by omega, j + 1, pl, h1, h2, h3, h4, rfl⟩
      · -- known, marks
        intro kn hkn
        have exk := Ex.new (o := dnO P w kn []) hkn
        have hkk : DN P w (upd H5 kn (dnO P w kn [])) kn [] := dn_new upd_same
        have ex6 := ex5.trans exk
        refine ⟨_, rfl, _, rfl, _, rfl, _, rfl, a, b, rd, pl5, order, mv, rs, _, rfl, hO.ex ex6, hV.ex ex6, .of (exk _ _ hr5), .of (exk _ _ hp5), parts_len _, hl1, hmv, grs, h1000, hmz, fun ml ys H7 hml ex7 hml7 rys => ?_⟩
        refine ⟨by simp [sizeLine], fun t ht => ?_⟩
        have ext := ex7.newT (o := .tup [.ref kn, .ref ml]) ht
        have eT := Ex.new (o := .tup [.ref kn, .ref ml]) ht
        refine ⟨t, _, rfl, .of upd_same, rfl, _, _, rfl, _, _, rfl, rfl, ?_⟩
        have hml8 := eT _ _ hml7
        have rys8 : MkV (upd H7 t (.tup [.ref kn, .ref ml])) ys (marksF (order.map (·.1)) mv rs (partsK (order.map (·.1)) mv rs order.length j) order.length) := pair_mapP rys fun y k ⟨b, h⟩ => ⟨b, h.tu eT.tu⟩
        have hk8 := hkk.ex ext
        have ex8 : Ex H5 (upd H7 t (.tup [.ref kn, .ref ml])) := exk.trans ext
        generalize upd H7 t (.tup [.ref kn, .ref ml]) = H8 at hml8 rys8 hk8 ex8
        generalize hms : marksF (order.map (·.1)) mv rs (partsK (order.map (·.1)) mv rs order.length j) order.length = ms at *
        have msl : ms.length = order.length := by rw [← hms, ms_len]
        have ylen : ys.length = order.length := by rw [rys8.length, msl]
        refine ⟨_, rfl, ml, rfl, ⟨ys, .of hml8⟩, ?_⟩
        refine for_it (walk_list (xs := ys)) (fun i σ H' => (∃ x8 x9, σ = [some (.ref a), some (.ref b), some (.ref d), some (.ref rd), some (.ref pl5), some (vN (cntK (order.map (·.1)) mv rs order.length j)), some (.ref kn), some (.ref ml), x8, x9]) ∧ Ex H5 H' ∧ H' ml = some (.lst ys) ∧ MkV H' ys ms ∧ DN P w H' kn (knO (onceF (ms.take i)) 0)) ⟨⟨_, _, rfl⟩, ex8, hml8, rys8, hk8⟩ (fun i σ H' _ hP => .of hP.2.2.1) (fun i x σ _ H9 hi hP hy => ?_) (fun σ H9 hP => ?_)
        · obtain ⟨rfl, hx⟩ := hy
          obtain ⟨⟨x8, x9, rfl⟩, ex9, hml9, rys9, hk9⟩ := hP
          obtain ⟨mk, hmk, bk, isk⟩ := pair_at rys9 hx
          have et : onceF (ms.take (i + 1)) = if mk ∈ onceF (ms.take i) then onceF (ms.take i) else onceF (ms.take i) ++ [mk] := by
            rw [List.take_succ, hmk]
            exact once_snoc _ _
          have ol : (onceF (ms.take i)).length ≤ order.length := by
            have h1 := once_len (ms.take i)
            have h2 := List.length_take_le i ms
            have h3 : (ms.take i).length ≤ ms.length := by rw [List.length_take]; omega
            omega
          refine ⟨_, rfl, kn, rfl, ⟨_, hk9⟩, _, rfl, _, rfl, kn, _, rfl, hk9, bk, mkK mk, _, isk, hk9, by rw [knO_len]; simp [sizeLine]; omega, fun v hv => ?_, fun hv H10 k10 d10 => ?_⟩
          · rw [knO_look] at hv
            by_cases hm : mk ∈ onceF (ms.take i)
            · refine ⟨⟨_, _, rfl⟩, ex9, hml9, rys9, ?_⟩
              rw [et, if_pos hm]
              exact hk9
            · rw [if_neg hm] at hv
              cases hv
          · rw [put_new hv] at d10
            rw [knO_look] at hv
            by_cases hm : mk ∈ onceF (ms.take i)
            · rw [if_pos hm] at hv
              cases hv
            · have tu := Tu.at hk9 k10
              refine ⟨⟨_, _, rfl⟩, ex9.at hkn k10, ?_, pair_mapP rys9 fun y k ⟨b, h⟩ => ⟨b, h.tu tu⟩, ?_⟩
              · obtain ⟨φ, hf⟩ := hk9.has
                rw [k10 ml (fun e => by rw [e, hf] at hml9; cases hml9)]
                exact hml9
              · rw [et, if_neg hm, knO_snoc]
                rw [knO_len] at d10
                rw [show 0 + (onceF (ms.take i)).length = (onceF (ms.take i)).length by omega]
                exact d10
        · obtain ⟨⟨x8, x9, rfl⟩, ex9, hml9, rys9, hk9⟩ := hP
          rw [List.take_of_length_le (by omega)] at hk9
          -- parts = [known[mark] ..]
          refine ⟨_, rfl, ml, rfl, ⟨ys, .of hml9⟩, fun np hnp => ?_⟩
          refine lc_it (walk_list (xs := ys)) (fun i H' => Ex H9 H' ∧ H' np = some (.lst (((ms.map fun x => (onceF ms).idxOf x).take i).map vN))) ⟨Ex.new hnp, upd_same⟩ (fun i H' _ hP => .of (hP.1 _ _ hml9)) (fun i x _ H10 hi hP hy => ?_) (fun H10 hP => ?_)
          · obtain ⟨rfl, hx⟩ := hy
            obtain ⟨ex10, hn10⟩ := hP
            obtain ⟨mk, hmk, bk, isk⟩ := pair_at rys9 hx
            refine ⟨rfl, ?_⟩
            have hmm : mk ∈ onceF ms := once_mem.mpr (List.mem_of_getElem? hmk)
            refine ⟨_, rfl, _, rfl, kn, bk, _, _, _, rfl, isk.tu ex10.tu, hk9.ex ex10, by rw [knO_look, if_pos hmm, Nat.zero_add], _, hn10, by rw [List.length_map, List.length_take, List.length_map]; simp [sizeLine]; omega, ex10.mut hnp, ?_⟩
            rw [upd_same, List.take_succ, List.getElem?_map, hmk, List.map_append]
            rfl
          · obtain ⟨ex10, hn10⟩ := hP
            rw [List.take_of_length_le (by rw [List.length_map]; omega), ← hps] at hn10
            have hk10 := hk9.ex ex10
            have exf := (ex5.trans ex9).trans ex10
            refine ⟨_, rfl, kn, _, rfl, hk10, _, rfl, rfl, _, rfl, ?_⟩
            rw [knO_len, ← hcs]
            by_cases hc : cntK (order.map (·.1)) mv rs order.length (j + 1) = cntK (order.map (·.1)) mv rs order.length j
            · refine itT (decI hc) ?_
              exact ⟨_, rfl, q j np H10 exf hfin hc hn10⟩
            · refine itF (decIN hc) ?_
              refine ⟨_, rfl, kn, _, rfl, hk10, ?_⟩
              rw [knO_len, ← hcs]
              exact ⟨np, ⟨_, _, _, _, rfl⟩, exf, (ex9.trans ex10) _ _ hr5, hn10, hc⟩
end
end Cp
end

section
set_option Elab.async false
set_option linter.all false
/-! reachable states -/
namespace Cp
/-- the state of some tree -/
inductive Rch (m : Mach) : Row → Prop where
  | step (op : Nat) (ss : List Row) : m.ar[op]? = some ss.length → (∀ s ∈ ss, Rch m s) → Rch m (relS (jrow m op ss))
structure Tame (m : Mach) (B : Nat) : Prop where
  fin : ∀ l : List Row, l.Nodup → (∀ s ∈ l, Rch m s) → l.length ≤ B
  b : B ≤ 200
  sp : m.n ≤ 2 → ∀ s, Rch m s → spreadF s ≤ 3 * gpF m
/-- a step is done -/
def Proc (m : Mach) (ss : List Row) (st : Nd) : Prop := (∀ a ∈ st.2, a < ss.length) ∧ relS (jrow m st.1 (st.2.map fun a => ss.getD a [])) ∈ ss
theorem getD_app {ss ts : List Row} {a : Nat} (h : a < ss.length) : (ss ++ ts).getD a [] = ss.getD a [] := by
  rw [List.getD_eq_getElem?_getD, List.getD_eq_getElem?_getD, List.getElem?_append_left h]
theorem Proc.app {m : Mach} {ss ts : List Row} {st : Nd} (h : Proc m ss st) : Proc m (ss ++ ts) st := by
  refine ⟨fun a ha => ?_, ?_⟩
  · have := h.1 a ha
    rw [List.length_append]
    omega
  · rw [List.map_congr_left (g := fun a => ss.getD a []) fun a ha => getD_app (h.1 a ha)]
    exact List.mem_append_left _ h.2
theorem step1_mem {k op a : Nat} {st : Nd} (h : st ∈ step1 k op a) : st.1 = op ∧ st.2.length = a ∧ ∀ x ∈ st.2, x < k := by
  unfold step1 at h
  split at h
  · next e =>
    rw [List.mem_singleton.mp h]
    exact ⟨rfl, e.1.symm, by simp⟩
  · split at h
    · next e =>
      rw [List.mem_singleton.mp h]
      refine ⟨rfl, e.1.symm, fun x hx => ?_⟩
      rw [List.mem_singleton.mp hx]
      omega
    · split at h
      · next e =>
        rcases List.mem_append.mp h with h | h
        · obtain ⟨o, ho, rfl⟩ := List.mem_map.mp h
          rw [List.mem_range] at ho
          refine ⟨rfl, e.1.symm, fun x hx => ?_⟩
          simp at hx
          omega
        · obtain ⟨o, ho, rfl⟩ := List.mem_map.mp h
          rw [List.mem_range] at ho
          refine ⟨rfl, e.1.symm, fun x hx => ?_⟩
          simp at hx
          omega
      · cases h
theorem stepsF_go {ar : List Nat} {k : Nat} {st : Nd} : ∀ {i : Nat}, i ≤ ar.length → (st ∈ itn (fun op acc => acc ++ step1 k op (ar.getD op 0)) i [] ↔ ∃ op a, op < i ∧ ar[op]? = some a ∧ st ∈ step1 k op a)
  | 0, _ => by simp [itn]
  | i + 1, hi => by
    have ih := stepsF_go (ar := ar) (k := k) (st := st) (i := i) (by omega)
    have hg : ar[i]? = some (ar.getD i 0) := by
      rw [List.getD_eq_getElem?_getD, List.getElem?_eq_getElem (by omega)]
      rfl
    show st ∈ _ ++ _ ↔ _
    rw [List.mem_append, ih]
    constructor
    · rintro (⟨op, a, h1, h2, h3⟩ | h)
      · exact ⟨op, a, by omega, h2, h3⟩
      · exact ⟨i, _, by omega, hg, h⟩
    · rintro ⟨op, a, h1, h2, h3⟩
      by_cases e : op = i
      · subst e
        rw [hg] at h2
        cases h2
        exact .inr h3
      · exact .inl ⟨op, a, by omega, h2, h3⟩
theorem stepsF_iff {ar : List Nat} {k : Nat} {st : Nd} : st ∈ stepsF ar k ↔ ∃ op a, ar[op]? = some a ∧ st ∈ step1 k op a := by
  unfold stepsF
  rw [stepsF_go (Nat.le_refl _)]
  constructor
  · rintro ⟨op, a, _, h2, h3⟩
    exact ⟨op, a, h2, h3⟩
  · rintro ⟨op, a, h2, h3⟩
    exact ⟨op, a, (List.getElem?_eq_some_iff.mp h2).1, h2, h3⟩
/-- all steps done: all reachable states are there -/
theorem closed_all {m : Mach} (ha : ∀ a ∈ m.ar, a ≤ 2) {ss : List Row} (h : ∀ k, k ≤ ss.length → ∀ st ∈ stepsF m.ar k, Proc m ss st) : ∀ s, Rch m s → s ∈ ss := by
  intro s hs
  induction hs with
  | step op xs har _ ih =>
    have hl := ha _ (List.mem_of_getElem? har)
    have idx : ∀ x ∈ xs, ∃ i, i < ss.length ∧ ss.getD i [] = x := fun x hx => by
      obtain ⟨i, hi, e⟩ := List.getElem_of_mem (ih x hx)
      refine ⟨i, hi, ?_⟩
      rw [List.getD_eq_getElem?_getD, List.getElem?_eq_getElem hi, e]
      rfl
    match xs, har, hl, idx with
    | [], har, _, _ => exact (h 0 (Nat.zero_le _) (op, []) (stepsF_iff.mpr ⟨op, 0, har, by simp [step1]⟩)).2
    | [x], har, _, idx =>
      obtain ⟨i, hi, e⟩ := idx x (by simp)
      have h1 : relS (jrow m op [ss.getD i []]) ∈ ss := (h (i + 1) hi (op, [i]) (stepsF_iff.mpr ⟨op, 1, har, by simp [step1]⟩)).2
      rw [e] at h1
      exact h1
    | [x, y], har, _, idx =>
      obtain ⟨i, hi, e⟩ := idx x (by simp)
      obtain ⟨j, hj, e2⟩ := idx y (by simp)
      by_cases hij : j ≤ i
      · have h1 : relS (jrow m op [ss.getD i [], ss.getD j []]) ∈ ss := (h (i + 1) hi (op, [i, j]) (stepsF_iff.mpr ⟨op, 2, har, by
          rw [step1, if_neg (by omega), if_neg (by omega), if_pos (by omega)]
          refine List.mem_append_left _ (List.mem_map.mpr ⟨j, by rw [List.mem_range]; omega, by simp⟩)⟩)).2
        rw [e, e2] at h1
        exact h1
      · have h1 : relS (jrow m op [ss.getD i [], ss.getD j []]) ∈ ss := (h (j + 1) hj (op, [i, j]) (stepsF_iff.mpr ⟨op, 2, har, by
          rw [step1, if_neg (by omega), if_neg (by omega), if_pos (by omega)]
          refine List.mem_append_right _ (List.mem_map.mpr ⟨i, by rw [List.mem_range]; omega, by simp⟩)⟩)).2
        rw [e, e2] at h1
        exact h1
    | _ :: _ :: _ :: _, _, hl, _ => simp at hl
end Cp
end

section
set_option Elab.async false
set_option linter.all false
set_option maxRecDepth 100000
set_option maxHeartbeats 4000000
namespace Cp
open PySem PySem.Spec PyProof.Rows L2
theorem relS_len (r : Row) : (relS r).length = r.length := by unfold relS; simp
theorem Rch.len {m : Mach} {s : Row} (h : Rch m s) : s.length = m.n := by
  cases h with
  | step op ss _ _ => rw [relS_len, jrow_len]
/-- all reachable states, each once -/
structure OrdOk (m : Mach) (order : List Ent) : Prop where
  nd : (order.map (·.1)).Nodup
  rch : ∀ e ∈ order, Rch m e.1
  all : ∀ s, Rch m s → s ∈ order.map (·.1)
theorem OrdOk.len {m : Mach} {order : List Ent} {B : Nat} (h : OrdOk m order) (t : Tame m B) : order.length ≤ B := by
  have := t.fin _ h.nd fun s hs => by
    obtain ⟨e, he, rfl⟩ := List.mem_map.mp hs
    exact h.rch e he
  rwa [List.length_map] at this
theorem numK_app {ss : List Row} {s : Row} {f : Nat → V} : numK (ss ++ [s]) f (ss.length + 1) = numK ss f ss.length ++ [(nkS s, f ss.length)] := by
  rw [numK_succ]
  congr 1
  · unfold numK
    refine List.map_congr_left fun j hj => ?_
    rw [List.mem_range] at hj
    rw [getD_app hj]
  · rw [getD_at (x := s) (by simp)]
theorem numK_out {ss : List Row} {s : Row} {f : Nat → V} (h : s ∉ ss) : lookN (numK ss f ss.length) (nkS s) = none := by
  refine look_none fun p hp e => ?_
  unfold numK at hp
  obtain ⟨j, hj, rfl⟩ := List.mem_map.mp hp
  rw [List.mem_range] at hj
  have := nkS_inj e
  rw [getD_at (List.getElem?_eq_getElem hj)] at this
  exact h (this ▸ List.getElem_mem hj)
section
variable {P : Program} {w : World} {K : PySem.W.Frag} {mg : Str → Option Value} {base : Heap}
/-! explored -/
def sp_explored : Sp := fun vs H Q _ => ∃ (v : V) (m : Mach) (B : Nat), vs = [v] ∧ RD H v (dM m) ∧ m.Ok ∧ Tame m B ∧
  ∀ (t o : Addr) (order : List Ent) (H' : Hp), Ex H H' → H' t = some (.tup [.ref o, .bl false]) → OrV H' o order → OrdOk m order → Q (.ref t) H'
theorem ok_explored (T : Tx mg) (D : Def K mg "explored" s_explored) (C_ways_of : Cal P w K mg base CX0 "ways_of" 2 ["machine"] sp_ways_of) (C_greatest_price : Cal P w K mg base CX0 "greatest_price" 1 ["machine"] sp_greatest_price)
    (C_steps_from : Cal P w K mg base CX0 "steps_from" 1 ["machine", "at"] sp_steps_from) (C_stepped : Cal P w K mg base CX0 "stepped" 4 ["machine", "ways", "operator", "arguments"] (sp_stepped K)) (C_spread : Cal P w K mg base CX0 "spread" 1 ["state"] sp_spread) :
    Cal P w K mg base CX0 "explored" 5 ["machine"] sp_explored := by
  obtain ⟨f, fd, F, hm⟩ := D.ex
  refine ⟨f, fd, F.ok sc_explored (fun vs H Q E h => ?_) (fun cdv A outer s H vs Q E hr h => ?_), hm, F.kp, F.binds fun _ _ _ _ _ _ us hl => match us, hl with | [_], _ => rfl⟩
  · obtain ⟨v, m, B, rfl, _⟩ := h
    rfl
  · obtain ⟨v, m, B, rfl, hM, ok, tm, q⟩ := h
    obtain ⟨p, pa, pi, pc, ai, ac, M⟩ := hM.mv
    cases M.e
    have hB := tm.b
    have n4 := ok.n4
    refine ⟨_, (pss_cons (ps_asg (pe_tup (pa_cons (pe_cal C_ways_of (by first | exact hr | exact hr.mono (by decide)) (by rfl) pass0 (pa_cons (pv 0) pa_nil)) (pa_cons (pe_lst pa_nil) (pa_cons pe_nnew pa_nil)))) (kg_tup K (n := 3) rfl (pgs_cons (pg_name (i := 1) sc_explored.nd rfl (by first | exact .inl rfl | exact .inr rfl)) (pgs_cons (pg_name (i := 2) sc_explored.nd rfl (by first | exact .inl rfl | exact .inr rfl)) (pgs_cons (pg_name (i := 3) sc_explored.nd rfl (by first | exact .inl rfl | exact .inr rfl)) pgs_nil)))))
  (pss_cons (ps_par (i := 4) (j := 5) rfl sc_explored.nd rfl rfl (by decide) rfl rfl (pa_cons (pe_op op_mul (pe_cst T.cTIMES) (pe_cal C_greatest_price (by first | exact hr | exact hr.mono (by decide)) (by rfl) pass0 (pa_cons (pv 0) pa_nil))) (pa_cons (pe_un un_neg pe_int) pa_nil)) (by rfl))
  (pss_cons (ps_while PassesOwn.never (pt_cmpR op_lt (pv 5) (pe_callB (kc_len K) (by rfl) T.len boot_len (pa_cons (pv 2) pa_nil)) (nomark _))
  (pss_cons (ps_for PassesOwn.never rfl (ki_list K (pe_cal C_steps_from (by first | exact hr | exact hr.mono (by decide)) (by rfl) pass0 (pa_cons (pv 0) (pa_cons (pv 5) pa_nil)))) (kg_tup K (n := 2) rfl (pgs_cons (pg_name (i := 6) sc_explored.nd rfl (by first | exact .inl rfl | exact .inr rfl)) (pgs_cons (pg_name (i := 7) sc_explored.nd rfl (by first | exact .inl rfl | exact .inr rfl)) pgs_nil)))
  (pss_cons (ps_set (i := 8) sc_explored.nd rfl (by first | exact .inl rfl | exact .inr rfl) (pe_ix (kx_tup K) (pe_cal C_stepped (by first | exact hr | exact hr.mono (by decide)) (by rfl) pass0 (pa_cons (pv 0) (pa_cons (pv 1) (pa_cons (pv 6) (pa_cons (pe_lc (own := [("number", 9)]) rfl sc_explored.nd (ki_tup K (pv 7)) (blkOk_by (own := [("number", 9)]) (N := ["machine", "ways", "order", "known", "bound", "at", "operator", "numbers", "state", "number"]) (sc := defScope s_explored) (by decide +kernel)) (fun _ _ _ _ _ => (pg_name (i := 9) sc_explored.nd rfl (by first | exact .inl rfl | exact .inr rfl))) (fun _ _ _ _ _ => pts_nil) (fun _ _ _ _ _ => (pe_ix (kx_tup K) (pe_ix (kx_list K) (pv 2) (pv 9) (fun _ _ => rfl)) pe_int (fun _ _ => rfl)))) pa_nil))))) pe_int (fun _ _ => rfl)))
  (pss_one (ps_if (pt_cmpR (op_notinN (hu9 hr)) (pv 8) (pv 3) (by rfl)) (pss_cons (ps_nput (hu9 hr) (pv 3) (pv 8) pe_bl rfl)
  (pss_cons (ps_expr (pe_bm PySem.F.plainAttrs_list PySem.F.slot_list_append PySem.F.type_list_append mt_append (pv 2) (pa_cons (pe_tup (pa_cons (pv 8) (pa_cons (pv 6) (pa_cons (pv 7) pa_nil)))) pa_nil)))
  (pss_cons (ps_if (PW.pt (pw_and (pt_cmpR op_le (pe_ix (kx_tup K) (pv 0) pe_int (fun _ _ => rfl)) (pe_cst T.cFORMS_DECIDED) (nomark _)) (pw_and1 (pt_cmpR op_gt (pe_cal C_spread (by first | exact hr | exact hr.mono (by decide)) (by rfl) pass0 (pa_cons (pv 8) pa_nil)) (pv 4) (nomark _))))) (pss_one (ps_ret (pe_tup (pa_cons (pv 2) (pa_cons pe_bl pa_nil))))) pss_nil)
  (pss_one (ps_if (PW.pt (pw_and (pt_cmpR op_gt (pe_ix (kx_tup K) (pv 0) pe_int (fun _ _ => rfl)) (pe_cst T.cFORMS_DECIDED) (nomark _)) (pw_and1 (pt_cmpR op_gt (pe_callB (kc_len K) (by rfl) T.len boot_len (pa_cons (pv 2) pa_nil)) (pe_cst T.cMOST_STATES) (nomark _))))) (pss_one ps_never) pss_nil))))) pss_nil))))
  (pss_one (ps_set (i := 5) sc_explored.nd rfl (by first | exact .inl rfl | exact .inr rfl) (pe_op op_add (pv 5) pe_int)))))
  (pss_one (ps_ret (pe_tup (pa_cons (pv 2) (pa_cons pe_bl pa_nil)))))))), ?_⟩
    refine ⟨_, rfl, _, m, rfl, hM, ok.n4, fun c hc => ⟨(ok.cv c hc).first, (ok.cv c hc).last⟩, fun aw as H0 ex0 hW hd => ?_⟩
    refine ⟨by simp, fun o ho kn hkn => ⟨by simp [sizeLine], fun t ht => ?_⟩⟩
    have e1 := Ex.new (o := .lst []) ho
    have e2 := e1.newT (o := dnO P w kn []) hkn
    have e3 := e2.newT (o := .tup [.ref aw, .ref o, .ref kn]) ht
    have nok : o ≠ kn := fun e => by rw [← e, upd_same] at hkn; cases hkn
    have hoo : upd (upd (upd H0 o (.lst [])) kn (dnO P w kn [])) t (.tup [.ref aw, .ref o, .ref kn]) o = some (.lst []) := Ex.new ht _ _ (by rw [upd_ne nok]; exact upd_same)
    have hkk : DN P w (upd (upd (upd H0 o (.lst [])) kn (dnO P w kn [])) t (.tup [.ref aw, .ref o, .ref kn])) kn [] := (dn_new (P := P) (w := w) (H := upd (upd H0 o (.lst [])) kn (dnO P w kn [])) upd_same).ex (Ex.new ht)
    have hk0 : H0 kn = none := e1.free hkn
    refine ⟨t, _, rfl, .of upd_same, rfl, _, _, rfl, _, _, rfl, _, _, rfl, rfl, ?_⟩
    have exT := ex0.trans e3
    refine ⟨_, rfl, _, m, rfl, hM.ex exT, ok, fun H1 ex1 => ?_⟩
    have hoo1 := ex1 _ _ hoo
    have hkk1 := hkk.ex ex1
    have e4 : Ex H0 H1 := e3.trans ex1
    refine ⟨_, _, rfl, rfl, .inl ⟨by omega, by omega⟩, _, rfl, _, _, rfl, ?_⟩
    -- the rounds
    refine ⟨fun mm σ H' => ∃ (k : Nat) (order : List Ent), (∃ x6 x7 x8 x9, σ = [some (.ref p), some (.ref aw), some (.ref o), some (.ref kn), some (.int (3 * gpF m)), some (.int ((k : Int) - 1)), x6, x7, x8, x9]) ∧ Ex H0 H' ∧ OrV H' o order ∧ DN P w H' kn (numK (order.map (·.1)) (fun _ => .bl true) order.length) ∧
      (order.map (·.1)).Nodup ∧ (∀ e ∈ order, Rch m e.1) ∧ k ≤ order.length + 1 ∧ (∀ j, j < k → ∀ st ∈ stepsF m.ar j, Proc m (order.map (·.1)) st) ∧ mm = B + 1 - k,
      ⟨_, 0, [], ⟨_, _, _, _, rfl⟩, e4, ⟨[], hoo1, .nil⟩, hkk1, by simp, by simp, by omega, by intro j hj; omega, rfl⟩, ?_⟩
    rintro mm σ H2 ⟨k, order, ⟨x6, x7, x8, x9, rfl⟩, ex2, ⟨xs, hxs, rxs⟩, hkn2, hnd, hrch, hk, hproc, rfl⟩
    have lx : xs.length = order.length := by rw [rxs.length, List.length_map]
    have oB : order.length ≤ B := by
      have := tm.fin _ hnd fun s hs => by
        obtain ⟨e, he, rfl⟩ := List.mem_map.mp hs
        exact hrch e he
      rwa [List.length_map] at this
    have exH2 := ex0.trans ex2
    refine ⟨_, rfl, _, rfl, o, xs, rfl, .inl (.of hxs), _, _, rfl, rfl, _, rfl, ?_⟩
    by_cases hkl : k ≤ order.length
    · refine itT (decide_eq_true (by omega)) ?_
      refine ⟨fun σ' H' => ∃ (order : List Ent), (∃ x6 x7 x8 x9, σ' = [some (.ref p), some (.ref aw), some (.ref o), some (.ref kn), some (.int (3 * gpF m)), some (.int (((k + 1 : Nat) : Int) - 1)), x6, x7, x8, x9]) ∧ Ex H0 H' ∧ OrV H' o order ∧ DN P w H' kn (numK (order.map (·.1)) (fun _ => .bl true) order.length) ∧
        (order.map (·.1)).Nodup ∧ (∀ e ∈ order, Rch m e.1) ∧ k + 1 ≤ order.length + 1 ∧ (∀ j, j < k + 1 → ∀ st ∈ stepsF m.ar j, Proc m (order.map (·.1)) st), fun σ' H' ⟨order', h1, h2, h3, h4, h5, h6, h7, h8⟩ => ⟨B + 1 - (k + 1), by omega, k + 1, order', h1, h2, h3, h4, h5, h6, h7, h8, rfl⟩, ?_⟩
      -- the steps
      refine ⟨_, rfl, _, rfl, _, m, k, rfl, hM.ex exH2, ok, by omega, fun ls sx H3 hls ex3 hls3 rsx => ?_⟩
      have nlo : ls ≠ o := fun e => by rw [e, hxs] at hls; cases hls
      have nlk : ls ≠ kn := fun e => by
        obtain ⟨φ, hf⟩ := hkn2.has
        rw [e, hf] at hls
        cases hls
      refine ⟨ls, rfl, ⟨sx, .of hls3⟩, ?_⟩
      refine for_it (walk_list (xs := sx)) (fun i σ H' => ∃ order : List Ent, (∃ x6 x7 x8 x9, σ = [some (.ref p), some (.ref aw), some (.ref o), some (.ref kn), some (.int (3 * gpF m)), some (.int ((k : Int) - 1)), x6, x7, x8, x9]) ∧ Ex H0 H' ∧ H' ls = some (.lst sx) ∧ RDs H' sx ((stepsF m.ar k).map dStp) ∧ OrV H' o order ∧ DN P w H' kn (numK (order.map (·.1)) (fun _ => .bl true) order.length) ∧
        (order.map (·.1)).Nodup ∧ (∀ e ∈ order, Rch m e.1) ∧ k ≤ order.length ∧ (∀ j, j < k → ∀ st ∈ stepsF m.ar j, Proc m (order.map (·.1)) st) ∧ ∀ st ∈ (stepsF m.ar k).take i, Proc m (order.map (·.1)) st)
        ⟨order, ⟨_, _, _, _, rfl⟩, ex2.trans ex3, hls3, rsx, ⟨xs, ex3 _ _ hxs, rxs.ex ex3⟩, hkn2.ex ex3, hnd, hrch, hkl, hproc, by simp⟩ (fun i σ H' _ ⟨_, _, _, hP, _⟩ => .of hP) (fun i x σ _ H4 hi hP hy => ?_) (fun σ H4 hP => ?_)
      · clear hxs rxs lx oB exH2 ex2 hkn2 hnd hrch hk hproc hkl x6 x7 x8 x9 xs
        obtain ⟨rfl, hx⟩ := hy
        obtain ⟨order, ⟨x6, x7, x8, x9, rfl⟩, ex4, hls4, rsx4, ⟨xs, hxs, rxs⟩, hkn4, hnd, hrch, hkl, hproc, hproc2⟩ := hP
        have lx : xs.length = order.length := by rw [rxs.length, List.length_map]
        have oB : order.length ≤ B := by
          have := tm.fin _ hnd fun s hs => by
            obtain ⟨e, he, rfl⟩ := List.mem_map.mp hs
            exact hrch e he
          rwa [List.length_map] at this
        have exH4 := ex0.trans ex4
        have M4 := M.ex exH4.tu
        obtain ⟨st, hst, rst⟩ := rds_at rsx4 hx
        obtain ⟨ps, pb, rfl, hps, hpb⟩ := rst.stp
        obtain ⟨op, ar1, har, hst1⟩ := stepsF_iff.mp (List.mem_of_getElem? hst)
        obtain ⟨h1, h2, h3⟩ := step1_mem hst1
        have ha2 := ok.a2 _ (List.mem_of_getElem? har)
        have hidx : ∀ a ∈ st.2, a < order.length := fun a ha => by have := h3 a ha; omega
        refine ⟨ps, _, rfl, .of hps, rfl, _, _, rfl, _, _, rfl, rfl, ?_⟩
        -- the arguments
        refine ⟨_, rfl, _, rfl, _, rfl, _, rfl, pb, rfl, ⟨_, .of hpb⟩, fun ag hag => ?_⟩
        generalize hss : order.map (·.1) = ss at *
        have lss : ss.length = order.length := by rw [← hss, List.length_map]
        refine lc_it (walk_tup (xs := st.2.map vN)) (fun j H' => Ex H4 H' ∧ ∃ zs, H' ag = some (.lst zs) ∧ RDs H' zs (((st.2.map fun a => ss.getD a []).take j).map dS)) ⟨Ex.new hag, [], upd_same, .nil⟩ (fun j H' _ hP => .of (hP.1 _ _ hpb)) (fun j x _ H5 hj hP hy => ?_) (fun H5 hP => ?_)
        · obtain ⟨rfl, hxj⟩ := hy
          obtain ⟨ex5, zs, hzs, rzs⟩ := hP
          rw [List.length_map] at hj
          rw [List.getElem?_map, List.getElem?_eq_getElem hj] at hxj
          cases hxj
          have hj2 := hidx st.2[j] (List.getElem_mem hj)
          obtain ⟨x2, hx2, rx2⟩ := (rxs.ex ex5).at (i := st.2[j]) (d := dEnt order[st.2[j]]) (by rw [List.getElem?_map, List.getElem?_eq_getElem hj2]; rfl)
          obtain ⟨p2, u2, b2, rfl, hp2, ru2, hb2⟩ := rx2.ent
          have hse : ss.getD st.2[j] [] = order[st.2[j]].1 := getD_at (by rw [← hss, List.getElem?_map, List.getElem?_eq_getElem hj2]; rfl)
          have tu := Tu.lst (o := .lst (zs ++ [u2])) hzs
          refine ⟨rfl, _, rfl, _, rfl, o, xs, _, _, rfl, rfl, .of (ex5 _ _ hxs), atI_nat hx2, p2, _, _, _, rfl, rfl, .of hp2, rfl, zs, hzs, by rw [rzs.length, List.length_map, List.length_take, List.length_map]; simp [sizeLine]; omega, ex5.mut hag, _, upd_same, ?_⟩
          rw [List.take_succ, List.getElem?_map, List.getElem?_eq_getElem hj, List.map_append]
          refine (rzs.tu tu).app ?_
          show RDs _ _ [dS (ss.getD st.2[j] [])]
          rw [hse]
          exact .cons (ru2.tu tu) .nil
        · obtain ⟨ex5, zs, hzs, rzs⟩ := hP
          rw [List.take_of_length_le (by simp)] at rzs
          have hargs : ∀ r ∈ st.2.map (fun a => ss.getD a []), Rch m r := fun r hr => by
            obtain ⟨a, ha, rfl⟩ := List.mem_map.mp hr
            have h1 := hidx a ha
            rw [getD_at (x := order[a].1) (by rw [← hss, List.getElem?_map, List.getElem?_eq_getElem h1]; rfl)]
            exact hrch _ (List.getElem_mem h1)
          have hnew : Rch m (relS (jrow m st.1 (st.2.map fun a => ss.getD a []))) := .step _ _ (by rw [List.length_map, h1, h2]; exact har) hargs
          refine ⟨_, _, m, st.1, ag, zs, _, rfl, hM.ex (exH4.trans ex5), ok, ⟨aw, as, rfl, hW.ex (ex4.trans ex5)⟩, .of hzs, rzs, fun r hr => (hargs r hr).len, fun v' H6 ex6 hv' => ?_⟩
          have ex46 := ex5.trans ex6
          have ex06 := ex4.trans ex46
          have exH6 := ex0.trans ex06
          have M6 := M.ex exH6.tu
          generalize hs : relS (jrow m st.1 (st.2.map fun a => ss.getD a [])) = sN at *
          obtain ⟨pv, vs, rfl, hpv, rvs⟩ := hv'.inv_tup
          cases rvs with
          | cons r1 rvs =>
            cases rvs with
            | cons r2 rvs =>
              cases rvs
              rw [hs] at r1
              obtain ⟨bk, rfl, isk⟩ := r1.key
              refine ⟨pv, _, _, _, rfl, rfl, .of hpv, rfl, ?_⟩
              have hk6 := hkn4.ex ex46
              have hls6 := ex46 _ _ hls4
              have hxs6 := ex46 _ _ hxs
              refine ⟨_, rfl, _, rfl, bk, nkS sN, kn, _, isk, rfl, hk6, _, rfl, ?_⟩
              by_cases hin : sN ∈ ss
              · rw [← lss, numK_idx hnd hin]
                refine itF Bool.false_ne_true ?_
                refine ⟨order, ⟨_, _, _, _, rfl⟩, ex06, hls6, rsx4.ex ex46, ⟨xs, hxs6, rxs.ex ex46⟩, by rw [hss]; exact hk6, by rw [hss]; exact hnd, hrch, hkl, by rw [hss]; exact hproc, ?_⟩
                rw [hss]
                intro st2 hst2
                rw [List.take_succ, hst] at hst2
                rcases List.mem_append.mp hst2 with h | h
                · exact hproc2 st2 h
                · obtain rfl : st2 = st := by simpa using h
                  exact ⟨by rw [lss]; exact hidx, by rw [hs]; exact hin⟩
              · rw [← lss, numK_out hin]
                refine itT rfl ?_
                -- known[state] = True
                refine ⟨_, rfl, _, rfl, kn, bk, nkS sN, _, rfl, isk, hk6, by rw [numK_len]; simp [sizeLine]; omega, fun H7 k7 d7 => ?_⟩
                rw [← lss, put_new (numK_out hin)] at d7
                have tu7 := Tu.at hk6 k7
                have ex7 := ex06.at hk0 k7
                have hne : ∀ {c : Addr} {xs : List V}, H6 c = some (.lst xs) → H7 c = some (.lst xs) := fun {c xs} h => by
                  obtain ⟨φ, hf⟩ := hk6.has
                  rw [k7 c (fun e => by rw [e, hf] at h; cases h)]
                  exact h
                have hxs7 := hne hxs6
                have hls7 := hne hls6
                have rx7 := (rxs.ex ex46).tu tu7
                have rs7 := (rsx4.ex ex46).tu tu7
                have r17 := r1.tu tu7
                have hpb7 := tu7 _ _ (ex46 _ _ hpb)
                -- order.append
                refine ⟨_, rfl, .inl ⟨rfl, xs, .of hxs7⟩, ?_⟩
                refine ⟨_, rfl, _, rfl, _, rfl, by simp [sizeLine], fun t ht => ?_⟩
                have ext := Ex.new (o := .tup [.ref bk, vN st.1, .ref pb]) ht
                have hxs8 := ext _ _ hxs7
                have tu8 := Tu.lst (o := .lst (xs ++ [.ref t])) hxs8
                refine ⟨o, xs, _, rfl, rfl, hxs8, by simp [sizeLine]; omega, ?_⟩
                have ex8 := (ex7.trans ext).mut (o := .lst (xs ++ [.ref t])) ho
                have dn8 : DN P w (upd (upd H7 t (.tup [.ref bk, vN st.1, .ref pb])) o (.lst (xs ++ [.ref t]))) kn (numK (ss ++ [sN]) (fun _ => .bl true) (ss.length + 1)) := by
                  rw [numK_app]
                  exact (d7.ex ext).putL hxs8
                have hls8 : upd (upd H7 t (.tup [.ref bk, vN st.1, .ref pb])) o (.lst (xs ++ [.ref t])) ls = some (.lst sx) := by rw [upd_ne nlo]; exact ext _ _ hls7
                have hxs9 : upd (upd H7 t (.tup [.ref bk, vN st.1, .ref pb])) o (.lst (xs ++ [.ref t])) o = some (.lst (xs ++ [.ref t])) := upd_same
                have rx9 : RDs (upd (upd H7 t (.tup [.ref bk, vN st.1, .ref pb])) o (.lst (xs ++ [.ref t]))) (xs ++ [.ref t]) ((order ++ [(sN, st)]).map dEnt) := by
                  rw [List.map_append]
                  exact ((rx7.ex ext).tu tu8).app (.cons ((rd_ent (s := sN) (op := st.1) (ns := st.2) upd_same (r17.ex ext) (ext _ _ hpb7)).tu tu8) .nil)
                have rs9 := (rs7.ex ext).tu tu8
                have r19 := (r17.ex ext).tu tu8
                generalize upd (upd H7 t (.tup [.ref bk, vN st.1, .ref pb])) o (.lst (xs ++ [.ref t])) = H9 at ex8 dn8 hls8 hxs9 rx9 rs9 r19
                have M9 := M.ex (ex0.trans ex8).tu
                have hss2 : (order ++ [(sN, st)]).map (·.1) = ss ++ [sN] := by rw [List.map_append, hss]; rfl
                have hnd2 : (ss ++ [sN]).Nodup := by
                  rw [List.nodup_append]
                  refine ⟨hnd, by simp, fun x hx y hy e => ?_⟩
                  rw [List.mem_singleton.mp hy] at e
                  exact hin (e ▸ hx)
                have hrch2 : ∀ e ∈ order ++ [(sN, st)], Rch m e.1 := fun e he => by
                  rcases List.mem_append.mp he with he | he
                  · exact hrch e he
                  · rw [List.mem_singleton.mp he]
                    exact hnew
                have olen : order.length + 1 ≤ B := by
                  have := tm.fin _ hnd2 fun s hs => by
                    rw [← hss2] at hs
                    obtain ⟨e, he, rfl⟩ := List.mem_map.mp hs
                    exact hrch2 e he
                  rw [List.length_append, lss] at this
                  exact this
                have fin : ∀ {H10 : Hp} {y9 : Option V}, Ex H9 H10 → ∃ order : List Ent, (∃ x6 x7 x8' x9, [some (.ref p), some (.ref aw), some (.ref o), some (.ref kn), some (.int (3 * gpF m)), some (.int ((k : Int) - 1)), some (vN st.1), some (.ref pb), some (.ref bk), y9] = [some (.ref p), some (.ref aw), some (.ref o), some (.ref kn), some (.int (3 * gpF m)), some (.int ((k : Int) - 1)), x6, x7, x8', x9]) ∧ Ex H0 H10 ∧ H10 ls = some (.lst sx) ∧ RDs H10 sx ((stepsF m.ar k).map dStp) ∧ OrV H10 o order ∧ DN P w H10 kn (numK (order.map (·.1)) (fun _ => .bl true) order.length) ∧
                    (order.map (·.1)).Nodup ∧ (∀ e ∈ order, Rch m e.1) ∧ k ≤ order.length ∧ (∀ j, j < k → ∀ st ∈ stepsF m.ar j, Proc m (order.map (·.1)) st) ∧ ∀ st ∈ (stepsF m.ar k).take (i + 1), Proc m (order.map (·.1)) st := fun {H10 y9} ex10 => by
                  refine ⟨order ++ [(sN, st)], ⟨_, _, _, _, rfl⟩, ex8.trans ex10, ex10 _ _ hls8, rs9.ex ex10, ⟨_, ex10 _ _ hxs9, rx9.ex ex10⟩, ?_, by rw [hss2]; exact hnd2, hrch2, by rw [List.length_append]; omega, ?_, ?_⟩
                  · rw [hss2, List.length_append, ← lss]
                    exact dn8.ex ex10
                  · rw [hss2]
                    exact fun j hj st hst => (hproc j hj st hst).app
                  · rw [hss2]
                    intro st2 hst2
                    rw [List.take_succ, hst] at hst2
                    rcases List.mem_append.mp hst2 with h | h
                    · exact (hproc2 st2 h).app
                    · obtain rfl : st2 = st := by simpa using h
                      refine ⟨fun a ha => ?_, ?_⟩
                      · rw [List.length_append]
                        have := hidx a ha
                        omega
                      · rw [List.map_congr_left (g := fun a => ss.getD a []) fun a ha => getD_app (by rw [lss]; exact hidx a ha), hs]
                        simp
                -- the two ifs
                refine ⟨_, rfl, p, _, _, _, rfl, rfl, .of M9.at0, rfl, _, _, rfl, rfl, _, rfl, ?_⟩
                by_cases hn2 : m.n ≤ 2
                · refine itT (decide_eq_true (by omega)) ?_
                  refine ⟨_, rfl, _, sN, rfl, r19, by rw [hnew.len]; omega, fun H10 ex10 => ?_⟩
                  refine ⟨_, rfl, _, _, rfl, rfl, _, rfl, ?_⟩
                  have hsp := tm.sp hn2 sN hnew
                  refine itF (fun z => by have := of_decide_eq_true z; omega) ?_
                  refine ⟨_, rfl, p, _, _, _, rfl, rfl, .of (ex10 _ _ M9.at0), rfl, _, _, rfl, rfl, _, rfl, ?_⟩
                  refine itF (fun z => by have := of_decide_eq_true z; omega) ?_
                  refine itF Bool.false_ne_true ?_
                  exact fin ex10
                · refine itF (fun z => by have := of_decide_eq_true z; omega) ?_
                  refine itF Bool.false_ne_true ?_
                  refine ⟨_, rfl, p, _, _, _, rfl, rfl, .of M9.at0, rfl, _, _, rfl, rfl, _, rfl, ?_⟩
                  refine itT (decide_eq_true (by omega)) ?_
                  refine ⟨_, rfl, o, _, rfl, .inl (.of hxs9), _, _, rfl, rfl, _, rfl, ?_⟩
                  refine itF (fun z => by have := of_decide_eq_true z; rw [List.length_append, lx] at this; simp at this; omega) ?_
                  exact fin (Ex.refl H9)
      · obtain ⟨order, ⟨x6, x7, x8, x9, rfl⟩, ex4, hls4, rsx4, hO4, hkn4, hnd, hrch, hkl, hproc, hproc2⟩ := hP
        refine ⟨_, rfl, _, _, rfl, rfl, ?_⟩
        have ek : (k : Int) - 1 + 1 = ((k + 1 : Nat) : Int) - 1 := by omega
        refine ⟨order, ⟨x6, x7, x8, x9, congrArg (fun z => [some (V.ref p), some (.ref aw), some (.ref o), some (.ref kn), some (.int (3 * gpF m)), some (V.int z), x6, x7, x8, x9]) ek⟩, ex4, hO4, hkn4, hnd, hrch, by omega, ?_⟩
        · intro j hj st hst
          by_cases e : j = k
          · subst e
            rw [List.take_of_length_le (by have := rsx4.length; rw [List.length_map] at this; omega)] at hproc2
            exact hproc2 st hst
          · exact hproc j (by omega) st hst
    · refine itF (fun z => by have := of_decide_eq_true z; omega) ?_
      refine ⟨_, rfl, by simp [sizeLine], fun t ht => ?_⟩
      refine q t o order _ (exH2.newT ht) upd_same ⟨xs, Ex.new ht _ _ hxs, rxs.ex (Ex.new ht)⟩ ⟨hnd, hrch, closed_all ok.a2 fun j hj st hst => hproc j ?_ st hst⟩
      rw [List.length_map] at hj
      omega
end
end Cp
end

section
set_option Elab.async false
set_option linter.all false
set_option maxRecDepth 100000
set_option maxHeartbeats 4000000
namespace Cp
open PySem PySem.Spec PyProof.Rows L2
section
variable {P : Program} {w : World} {K : PySem.W.Frag} {mg : Str → Option Value} {base : Heap}
/-! found_states, states, few_states -/
def sp_found_states : Sp := fun vs H Q _ => ∃ (v : V) (m : Mach) (B : Nat), vs = [v] ∧ RD H v (dM m) ∧ m.Ok ∧ Tame m B ∧ ∀ (o : Addr) (order : List Ent) (H' : Hp), Ex H H' → OrV H' o order → OrdOk m order → Q (.ref o) H'
theorem ok_found_states (T : Tx mg) (D : Def K mg "found_states" s_found_states) (C_explored : Cal P w K mg base CX0 "explored" 5 ["machine"] sp_explored) : Cal P w K mg base CX0 "found_states" 6 ["machine"] sp_found_states := by
  obtain ⟨f, fd, F, hm⟩ := D.ex
  refine ⟨f, fd, F.ok sc_found_states (fun vs H Q E h => ?_) (fun cdv A outer s H vs Q E hr h => ?_), hm, F.kp, F.binds fun _ _ _ _ _ _ us hl => match us, hl with | [_], _ => rfl⟩
  · obtain ⟨v, m, B, rfl, _⟩ := h
    rfl
  · obtain ⟨v, m, B, rfl, hM, ok, tm, q⟩ := h
    refine ⟨_, (pss_cons (ps_asg (pe_cal C_explored (by first | exact hr | exact hr.mono (by decide)) (by rfl) pass0 (pa_cons (pv 0) pa_nil)) (kg_tup K (n := 2) rfl (pgs_cons (pg_name (i := 1) sc_found_states.nd rfl (by first | exact .inl rfl | exact .inr rfl)) (pgs_cons (pg_name (i := 2) sc_found_states.nd rfl (by first | exact .inl rfl | exact .inr rfl)) pgs_nil))))
  (pss_cons (ps_if (pt_val (pv 2)) (pss_one ps_never) pss_nil)
  (pss_one (ps_ret (pv 1))))), ?_⟩
    refine ⟨_, rfl, v, m, B, rfl, hM, ok, tm, fun t o order H1 ex1 ht hO hok => ?_⟩
    refine ⟨t, _, rfl, .of ht, rfl, _, _, rfl, _, _, rfl, rfl, ?_⟩
    refine ⟨_, rfl, _, rfl, ?_⟩
    refine itF Bool.false_ne_true ?_
    exact ⟨_, rfl, q o order H1 ex1 hO hok⟩
def sp_few_states : Sp := fun vs H Q _ => ∃ (v : V) (m : Mach) (B : Nat), vs = [v] ∧ RD H v (dM m) ∧ m.Ok ∧ Tame m B ∧ B ≤ 60 ∧ ∀ (o : Addr) (order : List Ent) (H' : Hp), Ex H H' → OrV H' o order → OrdOk m order → Q (.ref o) H'
theorem ok_few_states (T : Tx mg) (D : Def K mg "few_states" s_few_states) (C_found_states : Cal P w K mg base CX0 "found_states" 6 ["machine"] sp_found_states) : Cal P w K mg base CX0 "few_states" 7 ["machine"] sp_few_states := by
  obtain ⟨f, fd, F, hm⟩ := D.ex
  refine ⟨f, fd, F.ok sc_few_states (fun vs H Q E h => ?_) (fun cdv A outer s H vs Q E hr h => ?_), hm, F.kp, F.binds fun _ _ _ _ _ _ us hl => match us, hl with | [_], _ => rfl⟩
  · obtain ⟨v, m, B, rfl, _⟩ := h
    rfl
  · obtain ⟨v, m, B, rfl, hM, ok, tm, h60, q⟩ := h
    refine ⟨_, (pss_cons (ps_set (i := 1) sc_few_states.nd rfl (by first | exact .inl rfl | exact .inr rfl) (pe_cal C_found_states (by first | exact hr | exact hr.mono (by decide)) (by rfl) pass0 (pa_cons (pv 0) pa_nil)))
  (pss_cons (ps_if (pt_cmpR op_gt (pe_callB (kc_len K) (by rfl) T.len boot_len (pa_cons (pv 1) pa_nil)) (pe_cst T.cMOST_PARTED) (nomark _)) (pss_one ps_never) pss_nil)
  (pss_one (ps_ret (pv 1))))), ?_⟩
    refine ⟨_, rfl, v, m, B, rfl, hM, ok, tm, fun o order H1 ex1 hO hok => ?_⟩
    obtain ⟨xs, hxs, rxs⟩ := id hO
    have lx : xs.length = order.length := by rw [rxs.length, List.length_map]
    have := hok.len tm
    refine ⟨_, rfl, o, xs, rfl, .inl (.of hxs), _, _, rfl, rfl, _, rfl, ?_⟩
    refine itF (fun z => by have := of_decide_eq_true z; omega) ?_
    exact ⟨_, rfl, q o order H1 ex1 hO hok⟩
def sp_states : Sp := fun vs H Q _ => ∃ (v : V) (m : Mach) (B : Nat), vs = [v] ∧ RD H v (dM m) ∧ m.Ok ∧ Tame m B ∧ ∀ (t : Addr) (ys : List V) (order : List Ent) (H' : Hp), Ex H H' → H' t = some (.tup ys) → ys.length = order.length → OrdOk m order → Q (.ref t) H'
theorem ok_states (T : Tx mg) (D : Def K mg "states" s_states) (C_need_machine : Cal P w K mg base CX0 "need_machine" 4 ["thing"] sp_need_machine) (C_ordered : Cal P w K mg base CX0 "ordered" 2 ["some"] (sp_ordered K))
    (C_found_states : Cal P w K mg base CX0 "found_states" 6 ["machine"] sp_found_states) : Cal P w K mg base CX0 "states" 7 ["machine"] sp_states := by
  obtain ⟨f, fd, F, hm⟩ := D.ex
  refine ⟨f, fd, F.ok sc_states (fun vs H Q E h => ?_) (fun cdv A outer s H vs Q E hr h => ?_), hm, F.kp, F.binds fun _ _ _ _ _ _ us hl => match us, hl with | [_], _ => rfl⟩
  · obtain ⟨v, m, B, rfl, _⟩ := h
    rfl
  · obtain ⟨v, m, B, rfl, hM, ok, tm, q⟩ := h
    refine ⟨_, (pss_cons (ps_expr (pe_cal C_need_machine (by first | exact hr | exact hr.mono (by decide)) (by rfl) pass0 (pa_cons (pv 0) pa_nil)))
  (pss_one (ps_ret (pe_cal C_ordered (by first | exact hr | exact hr.mono (by decide)) (by rfl) pass0 (pa_cons (pe_lc (own := [("state", 1), ("operator", 2), ("numbers", 3)]) rfl sc_states.nd (ki_list K (pe_cal C_found_states (by first | exact hr | exact hr.mono (by decide)) (by rfl) pass0 (pa_cons (pv 0) pa_nil))) (blkOk_by (own := [("state", 1), ("operator", 2), ("numbers", 3)]) (N := ["machine", "state", "operator", "numbers"]) (sc := defScope s_states) (by decide +kernel)) (fun _ _ _ _ _ => (kg_tup K (n := 3) rfl (pgs_cons (pg_name (i := 1) sc_states.nd rfl (by first | exact .inl rfl | exact .inr rfl)) (pgs_cons (pg_name (i := 2) sc_states.nd rfl (by first | exact .inl rfl | exact .inr rfl)) (pgs_cons (pg_name (i := 3) sc_states.nd rfl (by first | exact .inl rfl | exact .inr rfl)) pgs_nil))))) (fun _ _ _ _ _ => pts_nil) (fun _ _ _ _ _ => (pv 1))) pa_nil))))), ?_⟩
    refine ⟨_, rfl, v, m, rfl, hM, ok, fun H0 ex0 => ?_⟩
    refine ⟨_, rfl, v, m, B, rfl, hM.ex ex0, ok, tm, fun o order H1 ex1 hO hok => ?_⟩
    obtain ⟨xs, hxs, rxs⟩ := id hO
    have lx : xs.length = order.length := by rw [rxs.length, List.length_map]
    have oB := hok.len tm
    have hB := tm.b
    refine ⟨o, rfl, ⟨xs, .of hxs⟩, fun D2 hD => ?_⟩
    refine lc_it (walk_list (xs := xs)) (fun i H' => Ex H1 H' ∧ ∃ zs, H' D2 = some (.lst zs) ∧ RDs H' zs (((order.map (·.1)).take i).map dS)) ⟨Ex.new hD, [], upd_same, .nil⟩ (fun i H' _ hP => .of (hP.1 _ _ hxs)) (fun i x _ H2 hi hP hy => ?_) (fun H2 hP => ?_)
    · obtain ⟨rfl, hx⟩ := hy
      obtain ⟨ex2, zs, hzs, rzs⟩ := hP
      obtain ⟨e, he, re⟩ := rds_at (rxs.ex ex2) hx
      obtain ⟨pe, u, b, rfl, hpe, ru, hb⟩ := re.ent
      have tu := Tu.lst (o := .lst (zs ++ [u])) hzs
      refine ⟨pe, _, rfl, .of hpe, rfl, _, _, rfl, _, _, rfl, _, _, rfl, rfl, rfl, _, rfl, zs, hzs, by rw [rzs.length, List.length_map, List.length_take, List.length_map]; simp [sizeLine]; omega, ex2.mut hD, _, upd_same, ?_⟩
      rw [List.take_succ, List.getElem?_map, he, List.map_append]
      exact (rzs.tu tu).app (.cons (ru.tu tu) .nil)
    · obtain ⟨ex2, zs, hzs, rzs⟩ := hP
      rw [List.take_of_length_le (by rw [List.length_map]; omega)] at rzs
      have n4 := ok.n4
      refine ⟨D2, zs, _, rfl, .of hzs, rzs, fun s hs => ?_, by rw [List.length_map]; omega, fun ts t ys H3 hperm ex3 ht rys => ?_⟩
      · obtain ⟨e, he, rfl⟩ := List.mem_map.mp hs
        rw [(hok.rch e he).len]
        omega
      · refine q t ys order H3 (((ex0.trans ex1).trans ex2).trans ex3) ht ?_ hok
        rw [rys.length, List.length_map, hperm.length_eq, List.length_map]
/-! classes -/
/-- the groups of the states by their parts -/
structure Grp (ss : List Row) (part : Row → Nat) (g : List (Nat × List Row)) : Prop where
  nd : (g.map (·.1)).Nodup
  ne : ∀ p ∈ g, p.2 ≠ []
  mem : ∀ p ∈ g, ∀ s ∈ p.2, s ∈ ss ∧ part s = p.1
  all : ∀ s ∈ ss, ∃ p ∈ g, s ∈ p.2
/-- a group: its part, the list's place, its states -/
abbrev Gr := Nat × Addr × List Row
def kvE (E : List Gr) : List (Key × V) := E.map fun e => (Sum.inl (e.1 : Int), V.ref e.2.1)
def gE (E : List Gr) : List (Nat × List Row) := E.map fun e => (e.1, e.2.2)
theorem kvE_val : ∀ (E : List Gr) (k : Nat), valV (kvE E) (Sum.inl (k : Int)) = (E.find? fun e => decide (e.1 = k)).map fun e => V.ref e.2.1
  | [], k => rfl
  | p :: E, k => by
    have ih := kvE_val E k
    unfold valV kvE at ih ⊢
    rw [List.map_cons, List.find?_cons, List.find?_cons]
    by_cases e : p.1 = k
    · simp [e]
    · have : ¬ (Sum.inl (p.1 : Int) : Key) = Sum.inl (k : Int) := by
        intro z
        injection z with z
        omega
      simp only [this, e, decide_false]
      exact ih
theorem kvE_put {E : List Gr} {k : Nat} {a : Addr} (h : valV (kvE E) (Sum.inl (k : Int)) = none) (l : List Row) : putK (kvE E) (Sum.inl (k : Int)) (V.ref a) = kvE (E ++ [(k, a, l)]) := by
  have h1 : ((kvE E).any fun kv => decide (kv.1 = Sum.inl (k : Int))) = false := by
    rw [List.any_eq_false]
    intro kv hkv
    unfold valV at h
    have h3 : (kvE E).find? (fun kv => decide (kv.1 = Sum.inl (k : Int))) = none := by simpa using h
    rw [List.find?_eq_none] at h3
    exact h3 kv hkv
  unfold putK
  rw [if_neg (by rw [h1]; exact Bool.false_ne_true)]
  unfold kvE
  simp
/-- the state added to its group -/
def addE (E : List Gr) (k : Nat) (s : Row) : List Gr := E.map fun e => if e.1 = k then (e.1, e.2.1, e.2.2 ++ [s]) else e
theorem kvE_add (E : List Gr) (k : Nat) (s : Row) : kvE (addE E k s) = kvE E := by
  unfold kvE addE
  rw [List.map_map]
  refine List.map_congr_left fun e _ => ?_
  simp only [Function.comp]
  split <;> rfl
theorem gE_keys (E : List Gr) : (gE E).map (·.1) = E.map (·.1) := by unfold gE; rw [List.map_map]; rfl
theorem grp_add {ss : List Row} {part : Row → Nat} {E : List Gr} {s : Row} {e0 : Gr} (h : Grp ss part (gE E)) (he : e0 ∈ E) (hk : e0.1 = part s) : Grp (ss ++ [s]) part (gE (addE E (part s) s)) := by
  have keys : (gE (addE E (part s) s)).map (·.1) = (gE E).map (·.1) := by
    rw [gE_keys, gE_keys]
    unfold addE
    rw [List.map_map]
    refine List.map_congr_left fun e _ => ?_
    simp only [Function.comp]
    split <;> rfl
  refine ⟨by rw [keys]; exact h.nd, fun p hp => ?_, fun p hp s2 hs2 => ?_, fun s2 hs2 => ?_⟩
  · unfold gE addE at hp
    rw [List.map_map, List.mem_map] at hp
    obtain ⟨e, h1, rfl⟩ := hp
    simp only [Function.comp]
    split
    · simp
    · exact h.ne (e.1, e.2.2) (List.mem_map.mpr ⟨e, h1, rfl⟩)
  · unfold gE addE at hp
    rw [List.map_map, List.mem_map] at hp
    obtain ⟨e, h1, rfl⟩ := hp
    simp only [Function.comp] at hs2 ⊢
    by_cases c : e.1 = part s
    · rw [if_pos c] at hs2 ⊢
      rcases List.mem_append.mp hs2 with hs2 | hs2
      · obtain ⟨g1, g2⟩ := h.mem (e.1, e.2.2) (List.mem_map.mpr ⟨e, h1, rfl⟩) s2 hs2
        exact ⟨List.mem_append_left _ g1, g2⟩
      · rw [List.mem_singleton.mp hs2]
        exact ⟨by simp, c.symm⟩
    · rw [if_neg c] at hs2 ⊢
      obtain ⟨g1, g2⟩ := h.mem (e.1, e.2.2) (List.mem_map.mpr ⟨e, h1, rfl⟩) s2 hs2
      exact ⟨List.mem_append_left _ g1, g2⟩
  · rcases List.mem_append.mp hs2 with hs2 | hs2
    · obtain ⟨p, hp, hps⟩ := h.all s2 hs2
      unfold gE at hp
      obtain ⟨e, h1, rfl⟩ := List.mem_map.mp hp
      refine ⟨_, List.mem_map.mpr ⟨_, List.mem_map.mpr ⟨e, h1, rfl⟩, rfl⟩, ?_⟩
      split
      · exact List.mem_append_left _ hps
      · exact hps
    · rw [List.mem_singleton.mp hs2]
      refine ⟨_, List.mem_map.mpr ⟨_, List.mem_map.mpr ⟨e0, he, rfl⟩, rfl⟩, ?_⟩
      rw [if_pos hk]
      simp
theorem grp_new {ss : List Row} {part : Row → Nat} {E : List Gr} {s : Row} {a : Addr} (h : Grp ss part (gE E)) (hk : ∀ e ∈ E, e.1 ≠ part s) : Grp (ss ++ [s]) part (gE (E ++ [(part s, a, [s])])) := by
  have e : gE (E ++ [(part s, a, [s])]) = gE E ++ [(part s, [s])] := by unfold gE; simp
  rw [e]
  refine ⟨?_, fun p hp => ?_, fun p hp s2 hs2 => ?_, fun s2 hs2 => ?_⟩
  · rw [List.map_append, List.nodup_append]
    refine ⟨h.nd, by simp, fun x hx y hy e => ?_⟩
    rw [gE_keys] at hx
    obtain ⟨e1, h1, rfl⟩ := List.mem_map.mp hx
    rw [List.map_cons, List.map_nil, List.mem_singleton] at hy
    exact hk e1 h1 (e.trans hy)
  · rcases List.mem_append.mp hp with hp | hp
    · exact h.ne p hp
    · rw [List.mem_singleton.mp hp]
      simp
  · rcases List.mem_append.mp hp with hp | hp
    · obtain ⟨g1, g2⟩ := h.mem p hp s2 hs2
      exact ⟨List.mem_append_left _ g1, g2⟩
    · rw [List.mem_singleton.mp hp] at hs2 ⊢
      obtain rfl : s2 = s := by simpa using hs2
      exact ⟨by simp, rfl⟩
  · rcases List.mem_append.mp hs2 with hs2 | hs2
    · obtain ⟨p, hp, hps⟩ := h.all s2 hs2
      exact ⟨p, List.mem_append_left _ hp, hps⟩
    · rw [List.mem_singleton.mp hs2]
      exact ⟨(part s, [s]), by simp, by simp⟩
theorem Grp.perm {ss ts : List Row} {part : Row → Nat} {g : List (Nat × List Row)} (h : Grp ss part g) (p : ss.Perm ts) : Grp ts part g :=
  ⟨h.nd, h.ne, fun q hq s hs => ⟨p.mem_iff.mp (h.mem q hq s hs).1, (h.mem q hq s hs).2⟩, fun s hs => h.all s (p.mem_iff.mpr hs)⟩
theorem Tu.ext0 {H : Hp} {l : Addr} {od : Obj} {u o : HO} (h : H l = some (.frz od u)) : Tu H (upd H l o) := fun b ys e => by
  rw [upd_ne (fun z => by rw [z, h] at e; cases e)]
  exact e
theorem nodup_inj {α β : Type} {f : α → β} : ∀ {l : List α}, (l.map f).Nodup → ∀ a ∈ l, ∀ b ∈ l, f a = f b → a = b
  | [], _, _, h, _, _, _ => by cases h
  | x :: l, h, a, ha, b, hb, e => by
    rw [List.map_cons, List.nodup_cons] at h
    rcases List.mem_cons.mp ha with h1 | h1
    · rcases List.mem_cons.mp hb with h2 | h2
      · rw [h1, h2]
      · exact absurd (List.mem_map.mpr ⟨b, h2, by rw [← e, h1]⟩) h.1
    · rcases List.mem_cons.mp hb with h2 | h2
      · exact absurd (List.mem_map.mpr ⟨a, h1, by rw [e, h2]⟩) h.1
      · exact nodup_inj h.2 a h1 b h2 e
/-- the groups' lists in the heap -/
structure GrV (H0 H : Hp) (E : List Gr) : Prop where
  nd : (E.map fun e => e.2.1).Nodup
  new : ∀ e ∈ E, H0 e.2.1 = none
  row : ∀ e ∈ E, ∃ ys, H e.2.1 = some (.lst ys) ∧ RDs H ys (e.2.2.map dS)
theorem GrV.ex {H0 H H' : Hp} {E : List Gr} (h : GrV H0 H E) (e : Ex H H') : GrV H0 H' E := ⟨h.nd, h.new, fun x hx => let ⟨ys, h1, h2⟩ := h.row x hx; ⟨ys, e _ _ h1, h2.ex e⟩⟩
def Steady (m : Mach) : Prop := ∀ order : List Ent, OrdOk m order → ClosedO m (order.map (·.1)) ∧ MvOk order.length (movesF m (order.map (·.1))) ∧ GrowOk (order.map (·.1)) (movesF m (order.map (·.1))) order.length
noncomputable def partF (m : Mach) (ss : List Row) (k j : Nat) (s : Row) : Nat := (partsK ss (movesF m ss) (rsOf ss (movesF m ss) (fsK ss (movesF m ss) ss.length k)) ss.length (j + 1)).getD (ss.idxOf s) 0
def dG (g : List (Nat × List Row)) : PyData := .tuple (g.map fun p => .tuple (p.2.map dS))
/-- what classes tells -/
structure ClsOk (m : Mach) (g : List (Nat × List Row)) : Prop where
  ex : ∃ (order : List Ent) (k j : Nat), OrdOk m order ∧ fsL (movesF m (order.map (·.1))) (fsK (order.map (·.1)) (movesF m (order.map (·.1))) order.length k) order.length = [] ∧
    cntK (order.map (·.1)) (movesF m (order.map (·.1))) (rsOf (order.map (·.1)) (movesF m (order.map (·.1))) (fsK (order.map (·.1)) (movesF m (order.map (·.1))) order.length k)) order.length (j + 1) = cntK (order.map (·.1)) (movesF m (order.map (·.1))) (rsOf (order.map (·.1)) (movesF m (order.map (·.1))) (fsK (order.map (·.1)) (movesF m (order.map (·.1))) order.length k)) order.length j ∧
    Grp (order.map (·.1)) (partF m (order.map (·.1)) k j) g
def sp_classes : Sp := fun vs H Q _ => ∃ (v : V) (m : Mach) (B : Nat), vs = [v] ∧ RD H v (dM m) ∧ m.Ok ∧ Tame m B ∧ B ≤ 60 ∧ Steady m ∧ ∀ (g : List (Nat × List Row)) (v' : V) (H' : Hp), Ex H H' → ClsOk m g → RD H' v' (dG g) → Q v' H'
theorem ok_classes (T : Tx mg) (D : Def K mg "classes" s_classes) (C_need_machine : Cal P w K mg base CX0 "need_machine" 4 ["thing"] sp_need_machine) (C_ordered : Cal P w K mg base CX0 "ordered" 2 ["some"] (sp_ordered K))
    (C_few_states : Cal P w K mg base CX0 "few_states" 7 ["machine"] sp_few_states) (C_moves_of : Cal P w K mg base CX0 "moves_of" 5 ["machine", "order"] sp_moves_of) (C_parts_of : Cal P w K mg base CX0 "parts_of" 2 ["order", "moves"] sp_parts_of) : Cal P w K mg base CX0 "classes" 8 ["machine"] sp_classes := by
  obtain ⟨f, fd, F, hm⟩ := D.ex
  refine ⟨f, fd, F.ok sc_classes (fun vs H Q E h => ?_) (fun cdv A outer s H vs Q E hr h => ?_), hm, F.kp, F.binds fun _ _ _ _ _ _ us hl => match us, hl with | [_], _ => rfl⟩
  · obtain ⟨v, m, B, rfl, _⟩ := h
    rfl
  · obtain ⟨v, m, B, rfl, hM, ok, tm, h60, hst, q⟩ := h
    refine ⟨_, (pss_cons (ps_expr (pe_cal C_need_machine (by first | exact hr | exact hr.mono (by decide)) (by rfl) pass0 (pa_cons (pv 0) pa_nil)))
  (pss_cons (ps_set (i := 1) sc_classes.nd rfl (by first | exact .inl rfl | exact .inr rfl) (pe_cal C_few_states (by first | exact hr | exact hr.mono (by decide)) (by rfl) pass0 (pa_cons (pv 0) pa_nil)))
  (pss_cons (ps_set (i := 2) sc_classes.nd rfl (by first | exact .inl rfl | exact .inr rfl) (pe_cal C_parts_of (by first | exact hr | exact hr.mono (by decide)) (by rfl) pass0 (pa_cons (pv 1) (pa_cons (pe_cal C_moves_of (by first | exact hr | exact hr.mono (by decide)) (by rfl) pass0 (pa_cons (pv 0) (pa_cons (pv 1) pa_nil))) pa_nil))))
  (pss_cons (ps_setDcN (i := 3) (own := [("number", 6), ("one", 7)]) (hu9 hr) rfl sc_classes.nd rfl rfl (swd_true rfl rfl rfl (by decide +kernel)) (pi_enum (by rfl) T.enumerate (pa_cons (pv 1) pa_nil)) (blkOk_by (own := [("number", 6), ("one", 7)]) (N := ["machine", "order", "parts", "numbers", "found", "state", "number", "one", "some"]) (sc := defScope s_classes) (by decide +kernel)) (fun _ _ _ _ _ => (kg_tup K (n := 2) rfl (pgs_cons (pg_name (i := 6) sc_classes.nd rfl (by first | exact .inl rfl | exact .inr rfl)) (pgs_cons (pg_name (i := 7) sc_classes.nd rfl (by first | exact .inl rfl | exact .inr rfl)) pgs_nil)))) (fun _ _ _ _ _ => pts_nil) (fun _ _ _ _ _ => (pe_ix (kx_tup K) (pv 7) pe_int (fun _ _ => rfl))) (fun _ _ _ _ _ => (pe_ix (kx_list K) (pv 2) (pv 6) (fun _ _ => rfl))))
  (pss_cons (ps_set (i := 4) sc_classes.nd rfl (by first | exact .inl rfl | exact .inr rfl) pe_dnewK)
  (pss_cons (ps_for PassesOwn.never rfl (ki_tup K (pe_cal C_ordered (by first | exact hr | exact hr.mono (by decide)) (by rfl) pass0 (pa_cons (pe_lc (own := [("one", 7)]) rfl sc_classes.nd (ki_list K (pv 1)) (blkOk_by (own := [("one", 7)]) (N := ["machine", "order", "parts", "numbers", "found", "state", "number", "one", "some"]) (sc := defScope s_classes) (by decide +kernel)) (fun _ _ _ _ _ => (pg_name (i := 7) sc_classes.nd rfl (by first | exact .inl rfl | exact .inr rfl))) (fun _ _ _ _ _ => pts_nil) (fun _ _ _ _ _ => (pe_ix (kx_tup K) (pv 7) pe_int (fun _ _ => rfl)))) pa_nil))) (pg_name (i := 5) sc_classes.nd rfl (by first | exact .inl rfl | exact .inr rfl))
  (pss_one (ps_expr (pe_bm PySem.F.plainAttrs_list PySem.F.slot_list_append PySem.F.type_list_append mt_append (pe_dsetd (pv 4) (kn_get P w (hu9 hr) (pv 3) (pv 5) (fun _ _ => rfl)) (pe_lst pa_nil) ⟨rfl, rfl, rfl, rfl⟩) (pa_cons (pv 5) pa_nil)))))
  (pss_one (ps_ret (pe_callTy (kc_tup K) (by rfl) T.tuple boot_tuple (pa_cons (pe_lock (pe_lc (own := [("some", 8)]) rfl sc_classes.nd (pi_values (pv 4)) (blkOk_by (own := [("some", 8)]) (N := ["machine", "order", "parts", "numbers", "found", "state", "number", "one", "some"]) (sc := defScope s_classes) (by decide +kernel)) (fun _ _ _ _ _ => (pg_name (i := 8) sc_classes.nd rfl (by first | exact .inl rfl | exact .inr rfl))) (fun _ _ _ _ _ => pts_nil) (fun _ _ _ _ _ => (pe_callTy (kc_tup K) (by rfl) T.tuple boot_tuple (pa_cons (pv 8) pa_nil))))) pa_nil)))))))))), ?_⟩
    refine ⟨_, rfl, v, m, rfl, hM, ok, fun H0 ex0 => ?_⟩
    refine ⟨_, rfl, v, m, B, rfl, hM.ex ex0, ok, tm, h60, fun o order H1 ex1 hO hok => ?_⟩
    obtain ⟨hcl, hmv, hgr⟩ := hst order hok
    have oB := hok.len tm
    have ex01 := ex0.trans ex1
    have hlen : ∀ e ∈ order, e.1.length = m.n := fun e he => (hok.rch e he).len
    have n1 := ok.n1
    have n4 := ok.n4
    have hmz : (movesF m (order.map (·.1))).length ≤ 100000 := by
      unfold movesF
      rw [List.length_map, List.length_map]
      have h1 := stepsO_len (ar := m.ar) (many := order.length) m.ar.length
      have h2 : m.ar.length * (2 * order.length + 1) ≤ 6 * (2 * order.length + 1) := Nat.mul_le_mul_right _ ok.a6
      unfold stepsO
      omega
    refine ⟨_, rfl, _, rfl, _, rfl, v, o, m, order, rfl, hM.ex ex01, ok, hO, hlen, hok.nd, hcl, by omega, fun ml H2 ex2 hV => ?_⟩
    refine ⟨o, ml, order, _, rfl, hO.ex ex2, hV, fun e he => by rw [hlen e he]; exact n1, hmv, hgr, by omega, hmz, fun k j pl H3 ex3 hf hc hp => ?_⟩
    have ex13 := ex2.trans ex3
    have ex03 := ex01.trans ex13
    obtain ⟨xs, hxs, rxs⟩ := hO.ex ex13
    have lx : xs.length = order.length := by rw [rxs.length, List.length_map]
    generalize hparts : partsK (order.map (·.1)) (movesF m (order.map (·.1))) (rsOf (order.map (·.1)) (movesF m (order.map (·.1))) (fsK (order.map (·.1)) (movesF m (order.map (·.1))) order.length k)) order.length (j + 1) = parts at *
    have plen : parts.length = order.length := by rw [← hparts, parts_len]
    have hnd := hok.nd
    generalize hss : order.map (·.1) = ss at *
    have lss : ss.length = order.length := by rw [← hss, List.length_map]
    have hpf : ∀ s, partF m ss k j s = parts.getD (ss.idxOf s) 0 := fun s => by unfold partF; rw [lss, hparts]
    -- numbers
    refine ⟨_, rfl, o, xs, rfl, .of hxs, fun nb hnb => ?_⟩
    refine dcN_it (walk_enum (xs := xs)) (fun i H' => Ex H3 H' ∧ DN P w H' nb (numK ss (fun i => vN (parts.getD i 0)) i)) ⟨Ex.new hnb, dn_new upd_same⟩ (fun i H' _ hP => .of (hP.1 _ _ hxs)) (fun i x H4 H5 hi hP hy => ?_) (fun H4 hP => ?_)
    · obtain ⟨T1, y1, y2, rfl, nT, rfl, e1, e2⟩ := hy
      cases e1
      replace e2 : xs[i]? = some y2 := e2
      obtain ⟨ex4, hdn⟩ := hP
      have exT := Ex.new (o := .tup [.int (i : Nat), y2]) nT
      have hTT : upd H4 T1 (.tup [.int (i : Nat), y2]) T1 = some (.tup [.int (i : Nat), y2]) := upd_same
      generalize upd H4 T1 (.tup [.int (i : Nat), y2]) = H5 at exT hTT
      have ex5 := ex4.trans exT
      obtain ⟨e, he, re⟩ := rds_at (rxs.ex ex5) e2
      obtain ⟨pe, u, b, rfl, hpe, ru, hb⟩ := re.ent
      obtain ⟨bk, rfl, isk⟩ := ru.key
      have hse : ss.getD i [] = e.1 := getD_at (by rw [← hss, List.getElem?_map, he]; rfl)
      refine ⟨T1, _, rfl, .of hTT, rfl, _, _, rfl, _, _, rfl, rfl, rfl, ?_⟩
      refine ⟨_, rfl, pe, _, _, _, rfl, rfl, .of hpe, rfl, _, rfl, _, rfl, pl, _, _, _, rfl, rfl, .of (ex5 _ _ hp), atI_nat (j := i) (v := vN (parts.getD i 0)) ?_, _, bk, nkS e.1, isk, hdn.ex exT, by rw [numK_len]; simp [sizeLine]; omega, fun H6 k6 d6 => ⟨ex5.at hnb k6, ?_⟩⟩
      · rw [List.getElem?_map, List.getElem?_eq_getElem (by omega), getD_at (List.getElem?_eq_getElem (show i < parts.length by omega))]
        rfl
      · rw [← hse, numK_put hnd (by omega)] at d6
        exact d6
    · obtain ⟨ex4, hdn⟩ := hP
      rw [lx, ← lss] at hdn
      -- found = {}
      refine fun fn hfn => ?_
      have exf := ex4.newT (o := .dK []) hfn
      have hff : upd H4 fn (.dK []) fn = some (.dK []) := upd_same
      have hdnf : DN P w (upd H4 fn (.dK [])) nb (numK ss (fun i => vN (parts.getD i 0)) ss.length) := hdn.ex (Ex.new hfn)
      have fn3 : H3 fn = none := ex4.free hfn
      generalize upd H4 fn (.dK []) = H5 at exf hff hdnf
      have hxs5 := exf _ _ hxs
      -- the states
      refine ⟨_, rfl, o, rfl, ⟨xs, .of hxs5⟩, fun D2 hD => ?_⟩
      refine lc_it (walk_list (xs := xs)) (fun i H' => Ex H5 H' ∧ ∃ zs, H' D2 = some (.lst zs) ∧ RDs H' zs ((ss.take i).map dS)) ⟨Ex.new hD, [], upd_same, .nil⟩ (fun i H' _ hP => .of (hP.1 _ _ hxs5)) (fun i x _ H6 hi hP hy => ?_) (fun H6 hP => ?_)
      · obtain ⟨rfl, hx⟩ := hy
        obtain ⟨ex6, zs, hzs, rzs⟩ := hP
        obtain ⟨e, he, re⟩ := rds_at ((rxs.ex exf).ex ex6) hx
        obtain ⟨pe, u, b, rfl, hpe, ru, hb⟩ := re.ent
        have tu := Tu.lst (o := .lst (zs ++ [u])) hzs
        refine ⟨rfl, _, rfl, pe, _, _, _, rfl, rfl, .of hpe, rfl, zs, hzs, by rw [rzs.length, List.length_map, List.length_take]; simp [sizeLine]; omega, ex6.mut hD, _, upd_same, ?_⟩
        rw [List.take_succ, ← hss, List.getElem?_map, he, List.map_append, hss]
        exact (rzs.tu tu).app (.cons (ru.tu tu) .nil)
      · obtain ⟨ex6, zs, hzs, rzs⟩ := hP
        rw [List.take_of_length_le (by omega)] at rzs
        refine ⟨D2, zs, ss, rfl, .of hzs, rzs, fun s hs => ?_, by omega, fun ts t ys H7 hperm ex7 ht rys => ?_⟩
        · rw [← hss] at hs
          obtain ⟨e, he, rfl⟩ := List.mem_map.mp hs
          rw [hlen e he]
          omega
        · have ex57 := ex6.trans ex7
          have tlen : ts.length = order.length := by rw [hperm.length_eq, lss]
          have ylen : ys.length = ts.length := by rw [rys.length, List.length_map]
          refine ⟨t, rfl, ⟨ys, .of ht⟩, ?_⟩
          refine for_it (walk_tup (xs := ys)) (fun i σ H' => (∃ x5 x6 x7 x8, σ = [some v, some (.ref o), some (.ref pl), some (.ref nb), some (.ref fn), x5, x6, x7, x8]) ∧ Ex H3 H' ∧ H' t = some (.tup ys) ∧ RDs H' ys (ts.map dS) ∧ DN P w H' nb (numK ss (fun i => vN (parts.getD i 0)) ss.length) ∧ ∃ E : List Gr, H' fn = some (.dK (kvE E)) ∧ GrV H3 H' E ∧ (∀ e ∈ E, e.2.2.length ≤ i) ∧ Grp (ts.take i) (fun s => parts.getD (ss.idxOf s) 0) (gE E))
            ⟨⟨_, _, _, _, rfl⟩, exf.trans ex57, ht, rys, hdnf.ex ex57, [], ex57 _ _ hff, ⟨by simp, by simp, by simp⟩, by simp, ⟨by simp [gE], by simp [gE], by simp [gE], by simp⟩⟩ (fun i σ H' _ hP => .of hP.2.2.1) (fun i x σ _ H8 hi hP hy => ?_) (fun σ H8 hP => ?_)
          · obtain ⟨rfl, hx⟩ := hy
            obtain ⟨⟨x5, x6, x7, x8, rfl⟩, ex8, ht8, rys8, hdn8, E, hE, hG, hEl, hgrp⟩ := hP
            obtain ⟨s1, hs1, rs1⟩ := rds_at rys8 hx
            obtain ⟨bk, rfl, isk⟩ := rs1.key
            have hs1m : s1 ∈ ss := hperm.mem_iff.mp (List.mem_of_getElem? hs1)
            have hts : ts.take (i + 1) = ts.take i ++ [s1] := by rw [List.take_succ, hs1]; rfl
            have Elen : E.length ≤ i := by
              have h1 := hgrp.nd
              have h2 := nodup_le (l' := (ts.take i).map fun s => parts.getD (ss.idxOf s) 0) h1 fun k hk => by
                obtain ⟨p, hp, rfl⟩ := List.mem_map.mp hk
                have hne := hgrp.ne p hp
                obtain ⟨s2, hs2⟩ := List.exists_mem_of_ne_nil _ hne
                obtain ⟨g1, g2⟩ := hgrp.mem p hp s2 hs2
                exact List.mem_map.mpr ⟨s2, g1, g2⟩
              unfold gE at h2
              rw [List.length_map, List.length_map, List.length_map, List.length_take] at h2
              omega
            refine ⟨_, rfl, fn, rfl, .inl ⟨_, .of hE⟩, ?_⟩
            refine ⟨_, rfl, _, rfl, nb, bk, nkS s1, _, _, rfl, isk, hdn8, numK_idx hnd hs1m, ?_⟩
            refine ⟨by simp, fun z hz => ?_⟩
            have exz := Ex.new (o := .lst []) hz
            have hE9 := exz _ _ hE
            have hzz : upd H8 z (.lst []) z = some (.lst []) := upd_same
            have z3 : H3 z = none := ex8.free hz
            have hG9 := hG.ex exz
            have ex9 := ex8.trans exz
            have ht9 := exz _ _ ht8
            have rys9 := rys8.ex exz
            have hdn9 := hdn8.ex exz
            have rs9 := rs1.ex exz
            have nzf : z ≠ fn := fun e => by rw [e, hE] at hz; cases hz
            have zE : ∀ e ∈ E, e.2.1 ≠ z := fun e he h => by
              obtain ⟨ys, h1, _⟩ := hG.row e he
              rw [h, hz] at h1
              cases h1
            generalize upd H8 z (.lst []) = H9 at exz hE9 hzz hG9 ex9 ht9 rys9 hdn9 rs9
            have fE : ∀ e ∈ E, e.2.1 ≠ fn := fun e he h => by
              obtain ⟨ys, h1, _⟩ := hG9.row e he
              rw [h, hE9] at h1
              cases h1
            refine ⟨kvE E, Sum.inl ((parts.getD (ss.idxOf s1) 0 : Nat) : Int), hE9, rfl, by unfold kvE; rw [List.length_map]; simp [sizeLine]; omega, fun v2 hv2 => ?_, fun hv2 => ?_⟩
            · -- the group is there
              rw [kvE_val] at hv2
              rw [Option.map_eq_some_iff] at hv2
              obtain ⟨e0, hf0, rfl⟩ := hv2
              have he0 := List.mem_of_find?_eq_some hf0
              have hk0 : e0.1 = parts.getD (ss.idxOf s1) 0 := by simpa using List.find?_some hf0
              obtain ⟨zs0, hz0, rz0⟩ := hG9.row e0 he0
              refine ⟨.inl ⟨rfl, zs0, .of hz0⟩, _, rfl, ?_⟩
              have tu := Tu.lst (o := .lst (zs0 ++ [.ref bk])) hz0
              have zlen : zs0.length ≤ order.length := by
                have h1 := hEl e0 he0
                rw [rz0.length, List.length_map]
                omega
              refine ⟨e0.2.1, zs0, _, rfl, rfl, hz0, by simp [sizeLine]; omega, ⟨_, _, _, _, rfl⟩, ex9.mut (hG9.new e0 he0), tu _ _ ht9, rys9.tu tu, hdn9.putL hz0, addE E (parts.getD (ss.idxOf s1) 0) s1, ?_, ?_, ?_, ?_⟩
              · rw [kvE_add, upd_ne (fun h => fE e0 he0 h.symm)]
                exact hE9
              · refine ⟨?_, fun e he => ?_, fun e he => ?_⟩
                · have : (addE E (parts.getD (ss.idxOf s1) 0) s1).map (fun e => e.2.1) = E.map fun e => e.2.1 := by
                    unfold addE
                    rw [List.map_map]
                    refine List.map_congr_left fun e _ => ?_
                    simp only [Function.comp]
                    split <;> rfl
                  rw [this]
                  exact hG9.nd
                · obtain ⟨e1, h1, rfl⟩ := List.mem_map.mp he
                  split <;> exact hG9.new e1 h1
                · obtain ⟨e1, h1, rfl⟩ := List.mem_map.mp he
                  by_cases c : e1.1 = parts.getD (ss.idxOf s1) 0
                  · rw [if_pos c]
                    -- the keys are each once
                    have ee : e1 = e0 := nodup_inj (by have := hgrp.nd; rwa [gE_keys] at this) e1 h1 e0 he0 (c.trans hk0.symm)
                    subst ee
                    refine ⟨_, upd_same, ?_⟩
                    rw [List.map_append]
                    exact (rz0.tu tu).app (.cons (rs9.tu tu) .nil)
                  · rw [if_neg c]
                    obtain ⟨ys1, g1, g2⟩ := hG9.row e1 h1
                    have na : e1.2.1 ≠ e0.2.1 := fun h => c (by rw [nodup_inj hG9.nd e1 h1 e0 he0 h]; exact hk0)
                    exact ⟨ys1, by rw [upd_ne na]; exact g1, g2.tu tu⟩
              · intro e he
                obtain ⟨e1, h1, rfl⟩ := List.mem_map.mp he
                have := hEl e1 h1
                split
                · simp
                  exact this
                · omega
              · rw [hts]
                exact grp_add hgrp he0 hk0
            · -- a new group
              have hv3 := hv2
              rw [kvE_val, Option.map_eq_none_iff, List.find?_eq_none] at hv3
              have hkn : ∀ e ∈ E, e.1 ≠ parts.getD (ss.idxOf s1) 0 := fun e he => by simpa using hv3 e he
              rw [kvE_put (l := [s1]) hv2]
              have tuf := Tu.dK (o := .dK (kvE (E ++ [(parts.getD (ss.idxOf s1) 0, z, [s1])]))) hE9
              have hz10 : upd H9 fn (.dK (kvE (E ++ [(parts.getD (ss.idxOf s1) 0, z, [s1])]))) z = some (.lst []) := by rw [upd_ne nzf]; exact hzz
              refine ⟨.inl ⟨rfl, [], .of hz10⟩, _, rfl, ?_⟩
              have tu := Tu.lst (o := .lst ([] ++ [V.ref bk])) hz10
              refine ⟨z, [], _, rfl, rfl, hz10, by simp [sizeLine], ⟨_, _, _, _, rfl⟩, (ex9.mut fn3).mut z3, tu _ _ (tuf _ _ ht9), (rys9.tu tuf).tu tu, ?_, E ++ [(parts.getD (ss.idxOf s1) 0, z, [s1])], ?_, ?_, ?_, ?_⟩
              · refine DN.putL ?_ hz10
                obtain ⟨φ, hφ⟩ := hdn9.has
                exact hdn9.mono tuf (upd_ne fun h => by rw [h, hE9] at hφ; cases hφ)
              · rw [upd_ne (Ne.symm nzf), upd_same]
              · refine ⟨?_, fun e he => ?_, fun e he => ?_⟩
                · rw [List.map_append, List.nodup_append]
                  refine ⟨hG9.nd, by simp, fun x hx y hy h => ?_⟩
                  obtain ⟨e1, h1, rfl⟩ := List.mem_map.mp hx
                  rw [List.map_cons, List.map_nil, List.mem_singleton] at hy
                  exact zE e1 h1 (h.trans hy)
                · rcases List.mem_append.mp he with he | he
                  · exact hG9.new e he
                  · rw [List.mem_singleton.mp he]
                    exact z3
                · rcases List.mem_append.mp he with he | he
                  · obtain ⟨ys1, g1, g2⟩ := hG9.row e he
                    exact ⟨ys1, by rw [upd_ne (zE e he), upd_ne (fE e he)]; exact g1, (g2.tu tuf).tu tu⟩
                  · rw [List.mem_singleton.mp he]
                    exact ⟨_, upd_same, .cons ((rs9.tu tuf).tu tu) .nil⟩
              · intro e he
                rcases List.mem_append.mp he with he | he
                · have := hEl e he
                  omega
                · rw [List.mem_singleton.mp he]
                  simp
              · rw [hts]
                exact grp_new hgrp hkn
          · obtain ⟨⟨x5, x6, x7, x8, rfl⟩, ex8, ht8, rys8, hdn8, E, hE, hG, hEl, hgrp⟩ := hP
            rw [List.take_of_length_le (by omega)] at hgrp
            have Elen : E.length ≤ order.length := by
              have h1 := hgrp.nd
              have h2 := nodup_le (l' := ts.map fun s => parts.getD (ss.idxOf s) 0) h1 fun k hk => by
                obtain ⟨p, hp, rfl⟩ := List.mem_map.mp hk
                have hne := hgrp.ne p hp
                obtain ⟨s2, hs2⟩ := List.exists_mem_of_ne_nil _ hne
                obtain ⟨g1, g2⟩ := hgrp.mem p hp s2 hs2
                exact List.mem_map.mpr ⟨s2, g1, g2⟩
              unfold gE at h2
              rw [List.length_map, List.length_map, List.length_map] at h2
              omega
            -- the values, locked
            refine ⟨fn, _, hE, trivial, fun od => ?_⟩
            have fE : ∀ e ∈ E, e.2.1 ≠ fn := fun e he h => by
              obtain ⟨ys, h1, _⟩ := hG.row e he
              rw [h, hE] at h1
              cases h1
            have tuL := Tu.dK (o := .frz od (.dK (kvE E))) hE
            have hL : upd H8 fn (.frz od (.dK (kvE E))) fn = some (.frz od (.dK (kvE E))) := upd_same
            have rowL : ∀ e ∈ E, ∃ ys, upd H8 fn (.frz od (.dK (kvE E))) e.2.1 = some (.lst ys) ∧ RDs (upd H8 fn (.frz od (.dK (kvE E)))) ys (e.2.2.map dS) := fun e he => by
              obtain ⟨ys, h1, h2⟩ := hG.row e he
              exact ⟨ys, by rw [upd_ne (fE e he)]; exact h1, h2.tu tuL⟩
            refine ⟨_, rfl, fn, od, _, rfl, hL, fun D3 hD3 => ?_⟩
            refine lc_it walk_values (fun i H' => Ex (upd H8 fn (.frz od (.dK (kvE E)))) H' ∧ ∃ zs, H' D3 = some (.lst zs) ∧ RDs H' zs (((gE E).take i).map fun p => PyData.tuple (p.2.map dS))) ⟨Ex.new hD3, [], upd_same, .nil⟩ (fun i H' _ hP => hP.1 _ _ hL) (fun i x _ H9 hi hP hy => ?_) (fun H9 hP => ?_)
            · obtain ⟨rfl, k1, hk1⟩ := hy
              obtain ⟨ex9, zs, hzs, rzs⟩ := hP
              unfold kvE at hk1 hi
              rw [List.length_map] at hi
              rw [List.getElem?_map, List.getElem?_eq_getElem hi] at hk1
              simp at hk1
              obtain ⟨_, rfl⟩ := hk1
              obtain ⟨ws, hw1, hw2⟩ := rowL E[i] (List.getElem_mem hi)
              refine ⟨rfl, _, rfl, E[i].2.1, ws, rfl, .inl ⟨.of (ex9 _ _ hw1), fun l hl => ?_⟩⟩
              have exl := Ex.new (o := .tup ws) hl
              have hzs2 := exl _ _ hzs
              have tu := Tu.lst (o := .lst (zs ++ [.ref l])) hzs2
              have zl := rzs.length
              rw [List.length_map, List.length_take] at zl
              refine ⟨zs, hzs2, by simp [sizeLine]; omega, (ex9.trans exl).mut hD3, _, upd_same, ?_⟩
              have hg : (gE E)[i]? = some (E[i].1, E[i].2.2) := by
                unfold gE
                rw [List.getElem?_map, List.getElem?_eq_getElem hi]
                rfl
              rw [List.take_succ, hg, List.map_append]
              exact ((rzs.ex exl).tu tu).app (.cons ((RD.tup upd_same ((hw2.ex ex9).ex exl)).tu tu) .nil)
            · obtain ⟨ex9, zs, hzs, rzs⟩ := hP
              have el : (gE E).length = (kvE E).length := by unfold gE kvE; simp
              rw [List.take_of_length_le (by omega)] at rzs
              refine ⟨ex9 _ _ hL, ?_⟩
              have nDf : D3 ≠ fn := fun e => by rw [e, hL] at hD3; cases hD3
              have tuU := Tu.ext0 (o := .dK (kvE E)) (ex9 _ _ hL)
              have exU : Ex H8 (upd H9 fn (.dK (kvE E))) := Ex.unlock hE ex9
              have hzU : upd H9 fn (.dK (kvE E)) D3 = some (.lst zs) := by rw [upd_ne nDf]; exact hzs
              have rzU := rzs.tu tuU
              generalize upd H9 fn (.dK (kvE E)) = H10 at exU hzU rzU
              refine ⟨D3, zs, rfl, .inl ⟨.of hzU, fun l hl => ?_⟩⟩
              refine q (gE E) _ _ (((ex03.trans ex8).trans exU).newT hl) ⟨order, k, j, hok, by rw [hss]; exact hf, by rw [hss]; exact hc, ?_⟩ (.tup upd_same (rzU.ex (Ex.new hl)))
              rw [hss]
              have hfun : partF m ss k j = fun s => parts.getD (ss.idxOf s) 0 := funext hpf
              rw [hfun]
              exact hgrp.perm hperm
end
end Cp
end

section
set_option Elab.async false
set_option linter.all false
set_option maxRecDepth 100000
set_option maxHeartbeats 4000000
namespace Cp
open PySem PySem.Spec PyProof.Rows L2
/-- the pen at pp, drawn from at most n times -/
def Pen (H : Hp) (pp : Addr) (n : Nat) : Prop := ∃ x0 x1 c : Int, H pp = some (.lst [.int x0, .int x1, .int c]) ∧ 0 ≤ x0 ∧ 0 ≤ x1 ∧ x1 < 1000000007 ∧ 0 ≤ c ∧ c ≤ n
/-- all but the pen stands -/
def ExP (pp : Addr) (H H' : Hp) : Prop := ∀ c o, c ≠ pp → H c = some o → H' c = some o
theorem ExP.refl (pp : Addr) (H : Hp) : ExP pp H H := fun _ _ _ h => h
theorem ExP.trans {pp : Addr} {H H1 H2 : Hp} (a : ExP pp H H1) (b : ExP pp H1 H2) : ExP pp H H2 := fun c o n h => b c o n (a c o n h)
theorem Ex.p {pp : Addr} {H H' : Hp} (e : Ex H H') : ExP pp H H' := fun c o _ h => e c o h
theorem Pen.ex {H H' : Hp} {pp : Addr} {n : Nat} (h : Pen H pp n) (e : Ex H H') : Pen H' pp n := let ⟨x0, x1, c, h1, r⟩ := h; ⟨x0, x1, c, e _ _ h1, r⟩
theorem Pen.mono {H : Hp} {pp : Addr} {n n' : Nat} (h : Pen H pp n) (e : n ≤ n') : Pen H pp n' := let ⟨x0, x1, c, h1, h2, h3, h4, h5, h6⟩ := h; ⟨x0, x1, c, h1, h2, h3, h4, h5, by omega⟩
theorem Pen.lst {H : Hp} {pp : Addr} {n : Nat} (h : Pen H pp n) : ∃ xs, H pp = some (.lst xs) := let ⟨_, _, _, h1, _⟩ := h; ⟨_, h1⟩
theorem ExP.tu {pp : Addr} {H H' : Hp} {n : Nat} (e : ExP pp H H') (h : Pen H pp n) : Tu H H' := fun b xs q => by
  obtain ⟨ys, hp⟩ := h.lst
  exact e b _ (fun z => by rw [z, hp] at q; cases q) q
/-- a new thing may change -/
theorem ExP.mut {pp : Addr} {H H' : Hp} {p : Addr} {o : HO} (e : ExP pp H H') (h : H p = none) : ExP pp H (upd H' p o) := fun a u n ha => by
  rw [upd_ne (ne_of_none ha h)]
  exact e a u n ha
theorem ExP.newT {pp : Addr} {H H' : Hp} {p : Addr} {o : HO} (e : ExP pp H H') (h : H' p = none) : ExP pp H (upd H' p o) := e.trans (Ex.new h).p
theorem ExP.free {pp : Addr} {H H' : Hp} (e : ExP pp H H') {n : Nat} (hp : Pen H' pp n) {l : Addr} (h : H' l = none) : l ≠ pp := fun z => by
  obtain ⟨xs, h1⟩ := hp.lst
  rw [z, h1] at h
  cases h
theorem ExP.freeH {pp : Addr} {H H' : Hp} (e : ExP pp H H') {l : Addr} (n : l ≠ pp) (h : H' l = none) : H l = none := by
  cases q : H l with
  | none => rfl
  | some o =>
    rw [e l o n q] at h
    cases h
theorem SqL.exP {K : PySem.W.Frag} {pp : Addr} {H H' : Hp} {a : Addr} {xs : List V} (h : SqL K H a xs) (e : ExP pp H H') (n : a ≠ pp) : SqL K H' a xs := by
  rcases h with h | h
  · rcases h with h | ⟨o, h⟩
    · exact .inl (.inl (e _ _ n h))
    · exact .inl (.inr ⟨o, e _ _ n h⟩)
  · exact .inr h
section
variable {P : Program} {w : World} {K : PySem.W.Frag} {mg : Str → Option Value} {base : Heap}
def sp_law_cell_at (K : PySem.W.Frag) : Sp := fun vs H Q _ => ∃ (a : Addr) (ns : List Int) (k : Nat), vs = [.ref a, vN k] ∧ SqL K H a (ns.map V.int) ∧ ∀ i : Int, Q (.int i) H
theorem ok_law_cell_at (T : Tx mg) (D : Def K mg "_law_cell_at" s_law_cell_at) : Cal P w K mg base CX0 "_law_cell_at" 1 ["_law_script", "_law_k"] (sp_law_cell_at K) := by
  obtain ⟨f, fd, F, hm⟩ := D.ex
  refine ⟨f, fd, F.ok sc_law_cell_at (fun vs H Q E h => ?_) (fun cdv A outer s H vs Q E hr h => ?_), hm, F.kp, F.binds fun _ _ _ _ _ _ us hl => match us, hl with | [_, _], _ => rfl⟩
  · obtain ⟨a, ns, k, rfl, _⟩ := h
    rfl
  · obtain ⟨a, ns, k, rfl, hS, q⟩ := h
    refine ⟨_, (pss_cons (ps_if (pt_cmpR op_lt (pv 1) (pe_callB (kc_len K) (by rfl) T.len boot_len (pa_cons (pv 0) pa_nil)) (nomark _)) (pss_one (ps_ret (pe_ix (kx_list K) (pv 0) (pv 1) (fun _ _ => rfl)))) pss_nil)
  (pss_one (ps_ret pe_int))), ?_⟩
    refine ⟨_, rfl, _, rfl, a, _, rfl, .inl hS, _, _, rfl, rfl, _, rfl, ?_⟩
    by_cases h : k < ns.length
    · refine itT (decide_eq_true (by rw [List.length_map]; omega)) ?_
      exact ⟨_, rfl, _, rfl, a, _, _, _, rfl, rfl, hS, atI_nat (by rw [List.getElem?_map, List.getElem?_eq_getElem h]; rfl), q _⟩
    · refine itF (fun z => by have := of_decide_eq_true z; rw [List.length_map] at this; omega) ?_
      exact q 0
def sp_law_pen : Sp := fun vs H Q _ => ∃ i : Int, vs = [.int i] ∧ ∀ pp H', H pp = none → Ex H H' → Pen H' pp 0 → Q (.ref pp) H'
theorem ok_law_pen (T : Tx mg) (D : Def K mg "_law_pen" s_law_pen) : Cal P w K mg base CX0 "_law_pen" 1 ["_law_cell"] sp_law_pen := by
  obtain ⟨f, fd, F, hm⟩ := D.ex
  refine ⟨f, fd, F.ok sc_law_pen (fun vs H Q E h => ?_) (fun cdv A outer s H vs Q E hr h => ?_), hm, F.kp, F.binds fun _ _ _ _ _ _ us hl => match us, hl with | [_], _ => rfl⟩
  · obtain ⟨i, rfl, _⟩ := h
    rfl
  · obtain ⟨i, rfl, q⟩ := h
    refine ⟨_, (pss_one (ps_ret (pe_lst (pa_cons (pe_callB (call_max2 rfl) (by rfl) T.max boot_max (pa_cons pe_int (pa_cons (pe_op op_sub (pv 0) (pe_op op_pow pe_int pe_int)) pa_nil))) (pa_cons (pe_op op_mod (pv 0) pe_int) (pa_cons pe_int pa_nil)))))), ?_⟩
    refine ⟨_, rfl, 10, 18, rfl, rfl, ⟨by decide, by decide, by decide⟩, _, _, rfl, rfl, _, _, rfl, _, rfl, _, _, rfl, rfl, (by decide : (0 : Int) < 1000000007), by simp [sizeLine], fun pp hpp => ?_⟩
    refine q pp _ hpp (Ex.new hpp) ⟨_, _, _, upd_same, ?_, by omega, by omega, by omega, by omega⟩
    split <;> omega
def sp_law_draw : Sp := fun vs H Q _ => ∃ (pp : Addr) (many n : Nat), vs = [.ref pp, vN many] ∧ 1 ≤ many ∧ many ≤ 100000 ∧ Pen H pp n ∧ n ≤ 1000000 ∧ ∀ (d : Nat) (H' : Hp), d < many → Pen H' pp (n + 1) → (∀ c, c ≠ pp → H' c = H c) → Q (vN d) H'
theorem ok_law_draw (T : Tx mg) (D : Def K mg "_law_draw" s_law_draw) : Cal P w K mg base CX0 "_law_draw" 1 ["_law_pen_here", "_law_many"] sp_law_draw := by
  obtain ⟨f, fd, F, hm⟩ := D.ex
  refine ⟨f, fd, F.ok sc_law_draw (fun vs H Q E h => ?_) (fun cdv A outer s H vs Q E hr h => ?_), hm, F.kp, F.binds fun _ _ _ _ _ _ us hl => match us, hl with | [_, _], _ => rfl⟩
  · obtain ⟨pp, many, n, rfl, _⟩ := h
    rfl
  · obtain ⟨pp, many, n, rfl, h1, h2, ⟨x0, x1, c, hp, p0, p1, p2, p3, p4⟩, hn, q⟩ := h
    have fin : ∀ {z : Int} {H' : Hp}, 0 ≤ z → Pen H' pp (n + 1) → (∀ c, c ≠ pp → H' c = H c) → Q (.int (z % (many : Int))) H' := fun {z H'} hz h3 h4 => by
      have g1 : 0 ≤ z % (many : Int) := Int.emod_nonneg _ (by omega)
      have g2 : z % (many : Int) < many := Int.emod_lt_of_pos _ (by omega)
      have := q (z % (many : Int)).toNat H' (by omega) h3 h4
      have e : (((z % (many : Int)).toNat : Nat) : Int) = z % (many : Int) := Int.toNat_of_nonneg g1
      rw [← e]
      exact this
    refine ⟨_, (pss_cons (ps_if (pt_cmpR op_gt (pe_ix (kx_list K) (pv 0) pe_int (fun _ _ => rfl)) pe_int (nomark _)) (pss_cons (ps_set (i := 2) sc_law_draw.nd rfl (by first | exact .inl rfl | exact .inr rfl) (pe_op op_mod (pe_ix (kx_list K) (pv 0) pe_int (fun _ _ => rfl)) (pv 1)))
  (pss_cons (ps_asg (pe_op op_fdiv (pe_ix (kx_list K) (pv 0) pe_int (fun _ _ => rfl)) (pv 1)) (pg_sub (pv 0) pe_int set_list))
  (pss_one (ps_ret (pv 2))))) pss_nil)
  (pss_cons (ps_asg (pe_op op_add (pe_ix (kx_list K) (pv 0) pe_int (fun _ _ => rfl)) pe_int) (pg_sub (pv 0) pe_int set_list))
  (pss_cons (ps_set (i := 3) sc_law_draw.nd rfl (by first | exact .inl rfl | exact .inr rfl) (pe_op op_mod (pe_op op_mul (pe_op op_add (pe_ix (kx_list K) (pv 0) pe_int (fun _ _ => rfl)) (pe_op op_mul pe_int (pe_ix (kx_list K) (pv 0) pe_int (fun _ _ => rfl)))) (pe_op op_add pe_int (pe_op op_mul pe_int (pe_ix (kx_list K) (pv 0) pe_int (fun _ _ => rfl))))) pe_int))
  (pss_cons (ps_set (i := 3) sc_law_draw.nd rfl (by first | exact .inl rfl | exact .inr rfl) (pe_op op_mod (pe_op op_add (pe_op op_add (pe_op op_mul (pv 3) (pv 3)) (pe_op op_mul pe_int (pe_ix (kx_list K) (pv 0) pe_int (fun _ _ => rfl)))) pe_int) pe_int))
  (pss_one (ps_ret (pe_op op_mod (pe_op op_fdiv (pe_op op_mod (pe_op op_mul (pv 3) pe_int) pe_int) pe_int) (pv 1)))))))), ?_⟩
    refine ⟨_, rfl, pp, _, _, _, rfl, rfl, .of hp, rfl, _, _, rfl, rfl, _, rfl, ?_⟩
    by_cases h : 0 < x0
    · refine itT (decide_eq_true h) ?_
      refine ⟨_, rfl, pp, _, _, _, rfl, rfl, .of hp, rfl, _, rfl, _, _, rfl, rfl, (by omega : (0 : Int) < many), ?_⟩
      refine ⟨_, rfl, pp, _, _, _, rfl, rfl, .of hp, rfl, _, rfl, _, _, rfl, rfl, ⟨by omega, by omega⟩, ?_⟩
      refine ⟨_, rfl, pp, _, _, 0, rfl, rfl, hp, rfl, ?_⟩
      refine ⟨_, rfl, fin p0 ⟨_, _, _, upd_same, Int.ediv_nonneg p0 (by omega), p1, p2, p3, by omega⟩ fun c hc => upd_ne hc⟩
    · refine itF (fun z => h (of_decide_eq_true z)) ?_
      refine ⟨_, rfl, pp, _, _, _, rfl, rfl, .of hp, rfl, _, _, rfl, rfl, ?_⟩
      refine ⟨_, rfl, pp, _, _, 2, rfl, rfl, hp, rfl, ?_⟩
      have hp2 : upd H pp (.lst [.int x0, .int x1, .int (c + 1)]) pp = some (.lst [.int x0, .int x1, .int (c + 1)]) := upd_same
      have hpen : Pen (upd H pp (.lst [.int x0, .int x1, .int (c + 1)])) pp (n + 1) := ⟨_, _, _, upd_same, p0, p1, p2, by omega, by omega⟩
      have hoth : ∀ b, b ≠ pp → upd H pp (.lst [.int x0, .int x1, .int (c + 1)]) b = H b := fun b hb => upd_ne hb
      show tSeq _ _ _ _ (upd H pp (.lst [.int x0, .int x1, .int (c + 1)]))
      generalize upd H pp (.lst [.int x0, .int x1, .int (c + 1)]) = H2 at hp2 hpen hoth
      refine ⟨_, rfl, pp, _, _, _, rfl, rfl, .of hp2, rfl, ?_⟩
      refine ⟨_, rfl, pp, _, _, _, rfl, rfl, .of hp2, rfl, _, _, rfl, rfl, .inl ⟨by decide, by decide⟩, _, _, rfl, rfl, ?_⟩
      refine ⟨_, rfl, pp, _, _, _, rfl, rfl, .of hp2, rfl, _, _, rfl, rfl, .inl ⟨by decide, by decide⟩, _, _, rfl, rfl, ?_⟩
      refine ⟨_, _, rfl, rfl, .inl ⟨by omega, by omega⟩, _, _, rfl, rfl, (by decide : (0 : Int) < 2147483647), ?_⟩
      have s1a : 0 ≤ (x1 + 17 * (c + 1)) * (69621 + 2 * (c + 1)) % 2147483647 := Int.emod_nonneg _ (by decide)
      have s1b : (x1 + 17 * (c + 1)) * (69621 + 2 * (c + 1)) % 2147483647 < 2147483647 := Int.emod_lt_of_pos _ (by decide)
      refine ⟨_, rfl, _, rfl, _, _, rfl, rfl, .inl ⟨by omega, by omega⟩, _, rfl, pp, _, _, _, rfl, rfl, .of hp2, rfl, _, _, rfl, rfl, .inl ⟨by decide, by decide⟩, _, _, rfl, rfl, _, _, rfl, rfl, _, _, rfl, rfl, (by decide : (0 : Int) < 2147483629), ?_⟩
      have s2a : ∀ s : Int, 0 ≤ s % 2147483629 := fun s => Int.emod_nonneg _ (by decide)
      have s2b : ∀ s : Int, s % 2147483629 < 2147483629 := fun s => Int.emod_lt_of_pos _ (by decide)
      refine ⟨_, rfl, _, _, rfl, rfl, .inr ⟨by decide, by decide⟩, _, _, rfl, rfl, (by decide : (0 : Int) < 2147483647), _, _, rfl, rfl, ⟨by decide, by decide⟩, _, rfl, _, _, rfl, rfl, (by omega : (0 : Int) < many), ?_⟩
      exact fin (Int.ediv_nonneg (Int.emod_nonneg _ (by decide)) (by decide)) hpen hoth
end
end Cp
end

section
set_option Elab.async false
set_option linter.all false
set_option maxRecDepth 100000
set_option maxHeartbeats 4000000
namespace Cp
open PySem PySem.Spec PyProof.Rows L2
theorem ExP.of {pp : Addr} {H H' : Hp} (h : ∀ c, c ≠ pp → H' c = H c) : ExP pp H H' := fun c o n q => by rw [h c n]; exact q
theorem cut_from (xs : List V) {k : Nat} (h : k ≤ xs.length) : cutV xs (some (k : Int)) none = xs.drop k := by
  unfold cutV
  rw [HT.sIx_nat, HT.sIx_none, Nat.min_eq_left h]
  rw [List.take_of_length_le (by rw [List.length_drop]; exact Nat.le_refl _)]
theorem cut_to (xs : List V) {k : Nat} (h : k ≤ xs.length) : cutV xs none (some (k : Int)) = xs.take k := by
  unfold cutV
  rw [HT.sIx_nat, HT.sIx_none, Nat.min_eq_left h]
  simp
section
variable {P : Program} {w : World} {K : PySem.W.Frag} {mg : Str → Option Value} {base : Heap}
def sp_law_pick (K : PySem.W.Frag) : Sp := fun vs H Q _ => ∃ (pp a : Addr) (n : Nat) (xs : List V), vs = [.ref pp, .ref a] ∧ SqL K H a xs ∧ a ≠ pp ∧ 1 ≤ xs.length ∧ xs.length ≤ 100000 ∧ Pen H pp n ∧ n ≤ 1000000 ∧ ∀ (x : V) (H' : Hp), x ∈ xs → Pen H' pp (n + 1) → (∀ c, c ≠ pp → H' c = H c) → Q x H'
theorem ok_law_pick (T : Tx mg) (D : Def K mg "_law_pick" s_law_pick) (C_law_draw : Cal P w K mg base CX0 "_law_draw" 1 ["_law_pen_here", "_law_many"] sp_law_draw) : Cal P w K mg base CX0 "_law_pick" 2 ["_law_pen_here", "_law_some"] (sp_law_pick K) := by
  obtain ⟨f, fd, F, hm⟩ := D.ex
  refine ⟨f, fd, F.ok sc_law_pick (fun vs H Q E h => ?_) (fun cdv A outer s H vs Q E hr h => ?_), hm, F.kp, F.binds fun _ _ _ _ _ _ us hl => match us, hl with | [_, _], _ => rfl⟩
  · obtain ⟨pp, a, n, xs, rfl, _⟩ := h
    rfl
  · obtain ⟨pp, a, n, xs, rfl, hS, hne, h1, h2, hp, hn, q⟩ := h
    refine ⟨_, (pss_one (ps_ret (pe_ix (kx_list K) (pv 1) (pe_cal C_law_draw (by first | exact hr | exact hr.mono (by decide)) (by rfl) pass0 (pa_cons (pv 0) (pa_cons (pe_callB (kc_len K) (by rfl) T.len boot_len (pa_cons (pv 1) pa_nil)) pa_nil))) (fun _ _ => rfl)))), ?_⟩
    refine ⟨_, rfl, _, rfl, _, rfl, a, xs, rfl, .inl hS, pp, xs.length, n, rfl, h1, h2, hp, hn, fun d H1 hd hp1 ho => ?_⟩
    exact ⟨a, xs, _, _, rfl, rfl, SqL.exP hS (.of ho) hne, atI_nat (List.getElem?_eq_getElem hd), q _ H1 (List.getElem_mem hd) hp1 ho⟩
/-- arities as they are drawn -/
structure ArOk (ar : List Nat) : Prop where
  h1 : 1 ≤ ar.length
  h4 : ar.length ≤ 4
  h2 : ∀ a ∈ ar, a ≤ 2
  h0 : 0 ∈ ar
def sp_law_arities : Sp := fun vs H Q _ => ∃ (pp : Addr) (n : Nat), vs = [.ref pp] ∧ Pen H pp n ∧ n ≤ 900000 ∧ ∀ (ar : List Nat) (v : V) (H' : Hp), ArOk ar → RD H' v (.tuple (ar.map dN)) → Pen H' pp (n + 5) → ExP pp H H' → Q v H'
theorem ok_law_arities (T : Tx mg) (D : Def K mg "_law_arities" s_law_arities) (C_law_draw : Cal P w K mg base CX0 "_law_draw" 1 ["_law_pen_here", "_law_many"] sp_law_draw) (C_law_pick : Cal P w K mg base CX0 "_law_pick" 2 ["_law_pen_here", "_law_some"] (sp_law_pick K)) :
    Cal P w K mg base CX0 "_law_arities" 3 ["_law_pen_here"] sp_law_arities := by
  obtain ⟨f, fd, F, hm⟩ := D.ex
  refine ⟨f, fd, F.ok sc_law_arities (fun vs H Q E h => ?_) (fun cdv A outer s H vs Q E hr h => ?_), hm, F.kp, F.binds fun _ _ _ _ _ _ us hl => match us, hl with | [_], _ => rfl⟩
  · obtain ⟨pp, n, rfl, _⟩ := h
    rfl
  · obtain ⟨pp, n, rfl, hp, hn, q⟩ := h
    refine ⟨_, (pss_cons (ps_set (i := 1) sc_law_arities.nd rfl (by first | exact .inl rfl | exact .inr rfl) (pe_op op_cat (pe_lst (pa_cons pe_int pa_nil)) (pe_lc (own := [("_law_turn", 3)]) rfl sc_law_arities.nd (pi_range1 (by rfl) T.range (pa_cons (pe_cal C_law_draw (by first | exact hr | exact hr.mono (by decide)) (by rfl) pass0 (pa_cons (pv 0) (pa_cons pe_int pa_nil))) pa_nil)) (blkOk_by (own := [("_law_turn", 3)]) (N := ["_law_pen_here", "_law_some", "_law_at", "_law_turn"]) (sc := defScope s_law_arities) (by decide +kernel)) (fun _ _ _ _ _ => (pg_name (i := 3) sc_law_arities.nd rfl (by first | exact .inl rfl | exact .inr rfl))) (fun _ _ _ _ _ => pts_nil) (fun _ _ _ _ _ => (pe_cal C_law_pick (by first | exact hr | exact hr.mono (by decide)) (by rfl) pass0 (pa_cons (pv 0) (pa_cons (pe_lst (pa_cons pe_int (pa_cons pe_int (pa_cons pe_int (pa_cons pe_int (pa_cons pe_int pa_nil)))))) pa_nil)))))))
  (pss_cons (ps_set (i := 2) sc_law_arities.nd rfl (by first | exact .inl rfl | exact .inr rfl) (pe_cal C_law_draw (by first | exact hr | exact hr.mono (by decide)) (by rfl) pass0 (pa_cons (pv 0) (pa_cons (pe_callB (kc_len K) (by rfl) T.len boot_len (pa_cons (pv 1) pa_nil)) pa_nil))))
  (pss_one (ps_ret (pe_callTy (kc_tup K) (by rfl) T.tuple boot_tuple (pa_cons (pe_op op_cat (pe_slice (kl_list K) (pv 1) (po_some (pv 2)) po_none) (pe_slice (kl_list K) (pv 1) po_none (po_some (pv 2)))) pa_nil)))))), ?_⟩
    refine ⟨by simp [sizeLine], fun z hz => ?_⟩
    have exz := Ex.new (o := .lst [.int 0]) hz
    have hzz : upd H z (.lst [.int 0]) z = some (.lst [.int 0]) := upd_same
    have hpz := hp.ex exz
    have nz : z ≠ pp := fun e => by obtain ⟨xs, h1⟩ := hp.lst; rw [e, h1] at hz; cases hz
    generalize upd H z (.lst [.int 0]) = H1 at exz hzz hpz
    refine ⟨_, rfl, pp, 4, n, rfl, by decide, by decide, hpz, by omega, fun d H2 hd hp2 ho2 => ?_⟩
    have e12 : ExP pp H1 H2 := .of ho2
    have hz2 := e12 _ _ nz hzz
    refine ⟨_, rfl, by omega, by omega, fun D2 hD => ?_⟩
    have nD : D2 ≠ pp := e12.free hp2 hD
    refine lc_it (walk_rn (n := d)) (fun i H' => ExP pp H2 H' ∧ Pen H' pp (n + 1 + i) ∧ ∃ as : List Nat, as.length = i ∧ (∀ a ∈ as, a ≤ 2) ∧ H' D2 = some (.lst (as.map vN))) ⟨(ExP.refl pp H2).mut hD, hp2.ex (Ex.new hD), [], rfl, by simp, upd_same⟩ (fun i H' _ _ => trivial) (fun i x _ H3 hi hP hy => ?_) (fun H3 hP => ?_)
    · obtain ⟨rfl, rfl⟩ := hy
      obtain ⟨e3, hp3, as, hl, h2, hD3⟩ := hP
      refine ⟨rfl, ?_⟩
      refine ⟨_, rfl, by simp [sizeLine], fun t ht => ?_⟩
      have ext := Ex.new (o := .lst [.int 0, .int 1, .int 1, .int 2, .int 2]) ht
      have nt : t ≠ pp := e3.free hp3 ht
      refine ⟨pp, t, n + 1 + i, _, rfl, .of upd_same, nt, by simp, by simp, hp3.ex ext, by omega, fun x H4 hx hp4 ho4 => ?_⟩
      have e4 : ExP pp H2 H4 := (e3.trans ext.p).trans (.of ho4)
      obtain ⟨a, ha, rfl⟩ : ∃ a : Nat, a ≤ 2 ∧ x = vN a := by
        simp at hx
        rcases hx with rfl | rfl | rfl
        · exact ⟨0, by omega, rfl⟩
        · exact ⟨1, by omega, rfl⟩
        · exact ⟨2, by omega, rfl⟩
      have hD4 : H4 D2 = some (.lst (as.map vN)) := by rw [ho4 D2 nD]; exact ext _ _ hD3
      refine ⟨_, hD4, by rw [List.length_map]; simp [sizeLine]; omega, e4.mut hD, ?_, as ++ [a], by simp [hl], fun b hb => ?_, ?_⟩
      · obtain ⟨x0, x1, c, g1, r⟩ := hp4
        exact ⟨x0, x1, c, by rw [upd_ne nD.symm]; exact g1, r⟩
      · rcases List.mem_append.mp hb with hb | hb
        · exact h2 b hb
        · rw [List.mem_singleton.mp hb]
          exact ha
      · rw [upd_same, List.map_append]
        rfl
    · obtain ⟨e3, hp3, as, hl, h2, hD3⟩ := hP
      have hz3 := e3 _ _ nz hz2
      have nzD : z ≠ D2 := fun e => by rw [e] at hz2; rw [hz2] at hD; cases hD
      refine ⟨z, D2, _, _, rfl, rfl, hz3, hD3, by simp [sizeLine]; omega, fun s0 hs => ?_⟩
      have exs := Ex.new (o := .lst ([.int 0] ++ as.map vN)) hs
      have hss : upd H3 s0 (.lst ([.int 0] ++ as.map vN)) s0 = some (.lst ((0 :: as).map vN)) := upd_same
      have hp4 := hp3.ex exs
      have ns : s0 ≠ pp := e3.free hp3 hs
      have e4 : ExP pp H (upd H3 s0 (.lst ([.int 0] ++ as.map vN))) := ((exz.p.trans e12).trans e3).trans exs.p
      generalize upd H3 s0 (.lst ([.int 0] ++ as.map vN)) = H4 at hss hp4 e4
      have slen : ((0 :: as).map vN).length = as.length + 1 := by simp
      refine ⟨_, rfl, _, rfl, s0, _, rfl, .inl (.of hss), pp, as.length + 1, n + 1 + d, by rw [slen]; rfl, by omega, by omega, hp4, by omega, fun k H5 hk hp5 ho5 => ?_⟩
      have hs5 : H5 s0 = some (.lst ((0 :: as).map vN)) := by rw [ho5 s0 ns]; exact hss
      have e5 : ExP pp H H5 := e4.trans (.of ho5)
      have c1 : cutV ((0 :: as).map vN) (some (k : Int)) none = ((0 :: as).drop k).map vN := by rw [cut_from _ (by rw [slen]; omega), List.map_drop]
      have c2 : cutV ((0 :: as).map vN) none (some (k : Int)) = ((0 :: as).take k).map vN := by rw [cut_to _ (by rw [slen]; omega), List.map_take]
      refine ⟨_, rfl, _, rfl, _, rfl, s0, _, rfl, .of hs5, fun p1 h1 => ?_⟩
      rw [c1]
      have ex1 := Ex.new (o := .lst (((0 :: as).drop k).map vN)) h1
      have g1 : upd H5 p1 (.lst (((0 :: as).drop k).map vN)) p1 = some (.lst (((0 :: as).drop k).map vN)) := upd_same
      generalize upd H5 p1 (.lst (((0 :: as).drop k).map vN)) = H6 at ex1 g1
      refine ⟨_, rfl, _, rfl, _, rfl, s0, _, rfl, .of (ex1 _ _ hs5), fun p2 h2' => ?_⟩
      rw [c2]
      have ex2 := Ex.new (o := .lst (((0 :: as).take k).map vN)) h2'
      have g2 : upd H6 p2 (.lst (((0 :: as).take k).map vN)) p2 = some (.lst (((0 :: as).take k).map vN)) := upd_same
      generalize upd H6 p2 (.lst (((0 :: as).take k).map vN)) = H7 at ex2 g2
      refine ⟨p1, p2, _, _, rfl, rfl, ex2 _ _ g1, g2, by rw [List.length_map, List.length_map, List.length_drop, List.length_take, List.length_cons]; simp [sizeLine]; omega, fun p3 h3 => ?_⟩
      have ex3 := Ex.new (o := .lst (((0 :: as).drop k).map vN ++ ((0 :: as).take k).map vN)) h3
      refine ⟨p3, _, rfl, .inl ⟨.of upd_same, fun t ht => ?_⟩⟩
      have exx := ((ex1.trans ex2).trans ex3).newT (o := .tup (((0 :: as).drop k).map vN ++ ((0 :: as).take k).map vN)) ht
      have hmem : ∀ a, a ∈ (0 :: as).drop k ++ (0 :: as).take k ↔ a ∈ 0 :: as := fun a => by
        conv => rhs; rw [← List.take_append_drop k (0 :: as)]
        rw [List.mem_append, List.mem_append, or_comm]
      refine q ((0 :: as).drop k ++ (0 :: as).take k) _ _ ⟨?_, ?_, fun a ha => ?_, (hmem 0).mpr (List.mem_cons_self ..)⟩ (.tup upd_same (by rw [← List.map_append]; exact rds_n _)) ((hp5.ex exx).mono (by omega)) (e5.trans exx.p)
      · rw [List.length_append, List.length_drop, List.length_take, List.length_cons]
        omega
      · rw [List.length_append, List.length_drop, List.length_take, List.length_cons]
        omega
      · rcases List.mem_cons.mp ((hmem a).mp ha) with rfl | h
        · omega
        · exact h2 a h
end
end Cp
end

section
set_option Elab.async false
set_option linter.all false
set_option maxRecDepth 100000
set_option maxHeartbeats 4000000
namespace Cp
open PySem PySem.Spec PyProof.Rows L2
theorem states_lay : ∀ (l : List Row), PyData.canLayAll0 (l.map dS) = true
  | [] => by simp [PyData.canLayAll0]
  | s :: r => by rw [List.map_cons, PyData.canLayAll0, dS_lay, states_lay r]; rfl
theorem states_depth : ∀ (l : List Row), PyData.depthAll (l.map dS) ≤ 1
  | [] => by simp [PyData.depthAll]
  | s :: r => by
    have h1 := states_depth r
    have h2 := dS_depth s
    rw [List.map_cons, PyData.depthAll]
    omega
theorem states_any (l : List Row) (s : Row) : ((l.map dS).any fun z => PyData.eqv z (dS s)) = decide (s ∈ l) := by
  induction l with
  | nil => simp
  | cons a l ih =>
    rw [List.map_cons, List.any_cons, ih, dS_eqv]
    by_cases h : a = s
    · simp [h]
    · have : ¬ s = a := fun z => h z.symm
      simp [h, this]
section
variable {P : Program} {w : World} {K : PySem.W.Frag} {mg : Str → Option Value} {base : Heap}
/-! _law_class_of -/
def clsF (g : List (Nat × List Row)) (s : Row) : List Nat := (List.range g.length).filter fun i => decide (s ∈ (g.getD i (0, [])).2)
def sp_law_class_of : Sp := fun vs H Q _ => ∃ (v u : V) (g : List (Nat × List Row)) (s : Row), vs = [v, u] ∧ RD H v (dG g) ∧ RD H u (dS s) ∧ g.length ≤ 10000 ∧ ∀ (l : Addr) (H' : Hp), H l = none → Ex H H' → H' l = some (.lst ((clsF g s).map vN)) → Q (.ref l) H'
theorem ok_law_class_of (T : Tx mg) (D : Def K mg "_law_class_of" s_law_class_of) : Cal P w K mg base CX0 "_law_class_of" 1 ["_law_told", "_law_state"] sp_law_class_of := by
  obtain ⟨f, fd, F, hm⟩ := D.ex
  refine ⟨f, fd, F.ok sc_law_class_of (fun vs H Q E h => ?_) (fun cdv A outer s H vs Q E hr h => ?_), hm, F.kp, F.binds fun _ _ _ _ _ _ us hl => match us, hl with | [_, _], _ => rfl⟩
  · obtain ⟨v, u, g, s, rfl, _⟩ := h
    rfl
  · obtain ⟨v, u, g, st, rfl, hG, hS, hz, q⟩ := h
    obtain ⟨p, xs, rfl, hp, rxs⟩ := hG.inv_tup
    have lx : xs.length = g.length := by rw [rxs.length, List.length_map]
    refine ⟨_, (pss_one (ps_ret (pe_lc (own := [("_law_number", 2), ("_law_some", 3)]) rfl sc_law_class_of.nd (pi_enumT (by rfl) T.enumerate (pa_cons (pv 0) pa_nil)) (blkOk_by (own := [("_law_number", 2), ("_law_some", 3)]) (N := ["_law_told", "_law_state", "_law_number", "_law_some"]) (sc := defScope s_law_class_of) (by decide +kernel)) (fun _ _ _ _ _ => (kg_tup K (n := 2) rfl (pgs_cons (pg_name (i := 2) sc_law_class_of.nd rfl (by first | exact .inl rfl | exact .inr rfl)) (pgs_cons (pg_name (i := 3) sc_law_class_of.nd rfl (by first | exact .inl rfl | exact .inr rfl)) pgs_nil)))) (fun _ _ _ _ _ => (pts_one (pt_cmpR (ko_inDT K (hu65 hr)) (pv 1) (pv 3) (by rfl)))) (fun _ _ _ _ _ => (pv 2))))), ?_⟩
    refine ⟨_, rfl, p, xs, rfl, .of hp, fun D2 hD => ?_⟩
    refine lc_it walk_n (fun i H' => Ex H H' ∧ H' D2 = some (.lst (((List.range i).filter fun i => decide (st ∈ (g.getD i (0, [])).2)).map vN))) ⟨Ex.new hD, upd_same⟩ (fun i H' _ hP => .of (hP.1 _ _ hp)) (fun i x H1 H2 hi hP hy => ?_) (fun H1 hP => ?_)
    · obtain ⟨T1, y1, y2, rfl, nT, rfl, e1, e2⟩ := hy
      cases e1
      replace e2 : xs[i]? = some y2 := e2
      obtain ⟨ex, hD1⟩ := hP
      have exT := Ex.new (o := .tup [.int (i : Nat), y2]) nT
      have ex1 := ex.trans exT
      have hD2 := exT _ _ hD1
      obtain ⟨gr, hgr, rgr⟩ := rds_at (rxs.ex ex1) e2
      have hgd : g.getD i (0, []) = gr := getD_at hgr
      refine ⟨T1, _, rfl, SqT.of upd_same, rfl, _, _, rfl, _, _, rfl, rfl, rfl, ?_⟩
      refine ⟨_, rfl, _, rfl, dS st, gr.2.map dS, (hS.ex ex1).dp, rgr.dp, dS_shaped st, tup_shaped (n := PyData.depthAll (gr.2.map dS)) (states_lay _) rfl (by have := states_depth gr.2; omega), _, rfl, ?_⟩
      rw [states_any]
      have ef : (List.range (i + 1)).filter (fun i => decide (st ∈ (g.getD i (0, [])).2)) = (List.range i).filter (fun i => decide (st ∈ (g.getD i (0, [])).2)) ++ (if st ∈ gr.2 then [i] else []) := by
        rw [List.range_succ, List.filter_append, List.filter_cons, hgd]
        congr 1
        by_cases h : st ∈ gr.2 <;> simp [h]
      by_cases h : st ∈ gr.2
      · refine itT (decide_eq_true h) ?_
        rw [if_pos h] at ef
        refine ⟨_, rfl, _, hD2, ?_, ex1.mut hD, ?_⟩
        · rw [List.length_map]
          have := List.length_filter_le (fun i => decide (st ∈ (g.getD i (0, [])).2)) (List.range i)
          rw [List.length_range] at this
          simp only [sizeLine]
          omega
        · rw [upd_same, ef, List.map_append]
          rfl
      · refine itF (fun z => h (of_decide_eq_true z)) ?_
        rw [if_neg h, List.append_nil] at ef
        exact ⟨ex1, by rw [ef]; exact hD2⟩
    · obtain ⟨ex, hD1⟩ := hP
      rw [lx] at hD1
      exact q D2 H1 hD ex hD1
/-! _law_rel -/
def sp_law_rel : Sp := fun vs H Q _ => ∃ (v : V) (r : Row), vs = [v] ∧ RD H v (dS r) ∧ r.length ≤ 100 ∧ ∀ v' H', Ex H H' → RD H' v' (dRel r) → Q v' H'
theorem ok_law_rel (T : Tx mg) (D : Def K mg "_law_rel" s_law_rel) : Cal P w K mg base CX0 "_law_rel" 1 ["_law_row_here"] sp_law_rel := by
  obtain ⟨f, fd, F, hm⟩ := D.ex
  refine ⟨f, fd, F.ok sc_law_rel (fun vs H Q E h => ?_) (fun cdv A outer s H vs Q E hr h => ?_), hm, F.kp, F.binds fun _ _ _ _ _ _ us hl => match us, hl with | [_], _ => rfl⟩
  · obtain ⟨v, r, rfl, _⟩ := h
    rfl
  · obtain ⟨v, r, rfl, hR, hz, q⟩ := h
    obtain ⟨p, rfl, hp⟩ := hR.row
    refine ⟨_, (pss_cons (ps_setLc (i := 1) (own := [("_law_price", 3)]) rfl sc_law_rel.nd rfl rfl (sw_true rfl rfl rfl (by decide +kernel)) (ki_tup K (pv 0)) (blkOk_by (own := [("_law_price", 3)]) (N := ["_law_row_here", "_law_some", "_law_least", "_law_price"]) (sc := defScope s_law_rel) (by decide +kernel)) (fun _ _ _ _ _ => (pg_name (i := 3) sc_law_rel.nd rfl (by first | exact .inl rfl | exact .inr rfl))) (fun _ _ _ _ _ => (pts_one (pt_cmpR op_notN (pv 3) pe_non (nomark _)))) (fun _ _ _ _ _ => (pv 3)))
  (pss_cons (ps_set (i := 2) sc_law_rel.nd rfl (by first | exact .inl rfl | exact .inr rfl) (pe_ifExp (pt_cmpR (ko_ne K hr.units) (pv 1) (pe_lst pa_nil) (nomark _)) (pe_callB (cr_min rfl) (by rfl) T.min boot_min (pa_cons (pv 1) pa_nil)) pe_non))
  (pss_one (ps_ret (pe_tup (pa_cons (pe_callTy (kc_tup K) (by rfl) T.tuple boot_tuple (pa_cons (pe_lc (own := [("_law_price", 3)]) rfl sc_law_rel.nd (ki_tup K (pv 0)) (blkOk_by (own := [("_law_price", 3)]) (N := ["_law_row_here", "_law_some", "_law_least", "_law_price"]) (sc := defScope s_law_rel) (by decide +kernel)) (fun _ _ _ _ _ => (pg_name (i := 3) sc_law_rel.nd rfl (by first | exact .inl rfl | exact .inr rfl))) (fun _ _ _ _ _ => pts_nil) (fun _ _ _ _ _ => (pe_ifExp (pt_cmpR op_isN (pv 3) pe_non (nomark _)) pe_non (pe_op op_sub (pv 3) (pv 2))))) pa_nil)) (pa_cons (pv 2) pa_nil))))))), ?_⟩
    refine ⟨_, rfl, p, rfl, ⟨_, .of hp⟩, fun D2 hD => ?_⟩
    refine lc_it (walk_tup (xs := r.map vO)) (fun i H' => Ex H H' ∧ H' D2 = some (.lst ((somes (r.take i)).map V.int))) ⟨Ex.new hD, upd_same⟩ (fun i H1 _ hP => SqT.of (hP.1 _ _ hp)) (fun i x _ H1 hi hP hy => ?_) (fun H1 hP => ?_)
    · obtain ⟨rfl, hx⟩ := hy
      obtain ⟨ex, hD1⟩ := hP
      rw [List.length_map] at hi
      rw [vO_at hi] at hx
      cases hx
      have ht := somes_take hi
      refine ⟨rfl, _, rfl, rfl, _, rfl, ?_⟩
      cases e : r.getD i none with
      | none =>
        refine itF (by decide) ⟨ex, ?_⟩
        rw [ht, e]
        simpa using hD1
      | some j =>
        refine itT rfl ⟨_, rfl, _, hD1, ?_, ex.mut hD, ?_⟩
        · rw [List.length_map]
          have := List.length_filterMap_le id (r.take i)
          have := List.length_take_le i r
          simp [sizeLine, somes] at *
          omega
        · rw [upd_same, ht, e]
          simp [vO]
    · obtain ⟨ex, hD1⟩ := hP
      rw [List.length_map, List.take_length] at hD1
      refine ⟨_, rfl, by simp, fun z hz => ?_⟩
      have ex1 := ex.newT (o := .lst []) hz
      have hD2 := Ex.new (o := .lst []) hz _ _ hD1
      have hp1 := ex1 _ _ hp
      have hz1 : upd H1 z (.lst []) z = some (.lst []) := upd_same
      refine ⟨.list ((somes r).map .int), .list [], .lst (.of hD2) (rds_i _).dp, .lst (.of hz1) .nil, ints_shaped _, nil_shaped, _, rfl, ?_⟩
      rw [ints_ne]
      -- the second list, what least is being known
      cases e : somes r
      case nil =>
        refine itF (by decide) ?_
        have hb : baseF r = none := omin_none e
        refine ⟨_, rfl, p, rfl, ⟨_, .of hp1⟩, fun D3 hD3 => ?_⟩
        refine lc_it (walk_tup (xs := r.map vO)) (fun i H' => Ex H H' ∧ H' D3 = some (.lst (((relS r).take i).map vO))) ⟨ex1.newT hD3, upd_same⟩ (fun i H1 _ hP => SqT.of (hP.1 _ _ hp)) (fun i x _ H3 hi hP hy => ?_) (fun H3 hP => ?_)
        · obtain ⟨rfl, hx⟩ := hy
          obtain ⟨ex3, hD4⟩ := hP
          rw [List.length_map] at hi
          rw [vO_at hi] at hx
          cases hx
          have hg : r[i]? = some (r.getD i none) := by simp [hi]
          have ht : (relS r).take (i + 1) = (relS r).take i ++ [(r.getD i none).map (· - (baseF r).getD 0)] := by
            unfold relS
            rw [List.take_succ, List.getElem?_map, hg]
            rfl
          have hlen : (List.map vO ((relS r).take i)).length < sizeLine := by
            rw [List.length_map]
            have := List.length_take_le i (relS r)
            simp [sizeLine, relS] at *
            omega
          refine ⟨rfl, ?_⟩
          refine ⟨_, rfl, rfl, _, rfl, ?_⟩
          cases e4 : r.getD i none with
          | none =>
            refine itT (by decide) ⟨_, hD4, hlen, ex3.mut (ex1.free hD3), ?_⟩
            rw [upd_same, ht, e4]
            simp [vO]
          | some j =>
            refine itF (show ¬ (false = true) by decide) ?_
            exfalso
            have h2 : j ∈ somes r := List.mem_filterMap.mpr ⟨some j, by rw [← e4]; exact List.mem_of_getElem? hg, rfl⟩
            rw [e] at h2
            cases h2
        · obtain ⟨ex3, hD4⟩ := hP
          rw [List.length_map, List.take_of_length_le (by unfold relS; simp)] at hD4
          refine ⟨D3, _, rfl, .inl ⟨.of hD4, fun t ht => ?_⟩⟩
          refine ⟨_, rfl, by simp [sizeLine], fun t2 ht2 => q _ _ ((ex3.newT ht).newT ht2) ?_⟩
          refine .tup upd_same (.cons (.tup (Ex.new ht2 _ _ upd_same) (rds_o _)) (.cons ?_ .nil))
          rw [hb]
          exact .non
      case cons i t =>
        refine itT (by rfl) ?_
        refine ⟨_, rfl, D2, i :: t, rfl, .of (by rw [← e]; exact hD2), by simp, fun m h1 h2 => ?_⟩
        have hb : baseF r = some m := omin_some (by rw [e]; exact h1) (by rw [e]; exact h2)
        refine ⟨_, rfl, p, rfl, ⟨_, .of hp1⟩, fun D3 hD3 => ?_⟩
        refine lc_it (walk_tup (xs := r.map vO)) (fun i H' => Ex H H' ∧ H' D3 = some (.lst (((relS r).take i).map vO))) ⟨ex1.newT hD3, upd_same⟩ (fun i H1 _ hP => SqT.of (hP.1 _ _ hp)) (fun i x _ H3 hi hP hy => ?_) (fun H3 hP => ?_)
        · obtain ⟨rfl, hx⟩ := hy
          obtain ⟨ex3, hD4⟩ := hP
          rw [List.length_map] at hi
          rw [vO_at hi] at hx
          cases hx
          have hg : r[i]? = some (r.getD i none) := by simp [hi]
          have ht : (relS r).take (i + 1) = (relS r).take i ++ [(r.getD i none).map (· - (baseF r).getD 0)] := by
            unfold relS
            rw [List.take_succ, List.getElem?_map, hg]
            rfl
          have hlen : (List.map vO ((relS r).take i)).length < sizeLine := by
            rw [List.length_map]
            have := List.length_take_le i (relS r)
            simp [sizeLine, relS] at *
            omega
          refine ⟨rfl, ?_⟩
          refine ⟨_, rfl, rfl, _, rfl, ?_⟩
          cases e4 : r.getD i none with
          | none =>
            refine itT (by decide) ⟨_, hD4, hlen, ex3.mut (ex1.free hD3), ?_⟩
            rw [upd_same, ht, e4]
            simp [vO]
          | some j =>
            refine itF (show ¬ (false = true) by decide) ?_
            refine ⟨_, rfl, _, rfl, _, _, rfl, rfl, ?_⟩
            refine ⟨_, hD4, hlen, ex3.mut (ex1.free hD3), ?_⟩
            rw [upd_same, ht, e4, hb]
            simp [vO]
        · obtain ⟨ex3, hD4⟩ := hP
          rw [List.length_map, List.take_of_length_le (by unfold relS; simp)] at hD4
          refine ⟨D3, _, rfl, .inl ⟨.of hD4, fun t ht => ?_⟩⟩
          refine ⟨_, rfl, by simp [sizeLine], fun t2 ht2 => q _ _ ((ex3.newT ht).newT ht2) ?_⟩
          refine .tup upd_same (.cons (.tup (Ex.new ht2 _ _ upd_same) (rds_o _)) (.cons ?_ .nil))
          rw [hb]
          exact .int _
end
end Cp
end

section
set_option Elab.async false
set_option linter.all false
set_option maxRecDepth 100000
set_option maxHeartbeats 4000000
namespace Cp
open PySem PySem.Spec PyProof.Rows L2
def prs2 (many op j : Nat) : List Nd := (List.range j).flatMap fun o => (List.range many).map fun o2 => (op, [o, o2])
def prs (many op a : Nat) : List Nd := if a = 0 then [(op, [])] else if a = 1 then (List.range many).map (fun o => (op, [o])) else if a = 2 then prs2 many op many else []
def pairsF (ar : List Nat) (many : Nat) : List Nd := itn (fun op acc => acc ++ prs many op (ar.getD op 0)) ar.length []
theorem prs2_succ (many op j : Nat) : prs2 many op (j + 1) = prs2 many op j ++ (List.range many).map fun o2 => (op, [j, o2]) := by
  unfold prs2
  rw [List.range_succ, List.flatMap_append]
  simp
theorem prs2_len (many op : Nat) : ∀ j, (prs2 many op j).length = j * many
  | 0 => by simp [prs2]
  | j + 1 => by rw [prs2_succ, List.length_append, prs2_len many op j, List.length_map, List.length_range, Nat.succ_mul]
theorem prs_len (many op a : Nat) : (prs many op a).length ≤ many * many + many + 1 := by
  unfold prs
  split
  · simp
  · split
    · simp; omega
    · split
      · rw [prs2_len]; omega
      · simp
theorem pairs_len {ar : List Nat} {many : Nat} : ∀ i, (itn (fun op acc => acc ++ prs many op (ar.getD op 0)) i []).length ≤ i * (many * many + many + 1)
  | 0 => by simp [itn]
  | i + 1 => by
    have h1 := pairs_len (ar := ar) (many := many) i
    have h2 := prs_len many i (ar.getD i 0)
    show (_ ++ _ : List Nd).length ≤ _
    rw [List.length_append, Nat.succ_mul]
    omega
section
variable {P : Program} {w : World} {K : PySem.W.Frag} {mg : Str → Option Value} {base : Heap}
def sp_law_pairs : Sp := fun vs H Q _ => ∃ (v : V) (m : Mach) (many : Nat), vs = [v, vN many] ∧ RD H v (dM m) ∧ m.Ok ∧ many ≤ 100 ∧
  ∀ (l : Addr) (xs : List V) (H' : Hp), H l = none → Ex H H' → H' l = some (.lst xs) → RDs H' xs ((pairsF m.ar many).map dStp) → Q (.ref l) H'
theorem ok_law_pairs (T : Tx mg) (D : Def K mg "_law_pairs" s_law_pairs) : Cal P w K mg base CX0 "_law_pairs" 1 ["_law_machine_here", "_law_many"] sp_law_pairs := by
  obtain ⟨f, fd, F, hm⟩ := D.ex
  refine ⟨f, fd, F.ok sc_law_pairs (fun vs H Q E h => ?_) (fun cdv A outer s H vs Q E hr h => ?_), hm, F.kp, F.binds fun _ _ _ _ _ _ us hl => match us, hl with | [_, _], _ => rfl⟩
  · obtain ⟨v, m, k, rfl, _⟩ := h
    rfl
  · obtain ⟨v, m, k, rfl, hM, ok, hk, q⟩ := h
    obtain ⟨p, pa, pi, pc, ai, ac, M⟩ := hM.mv
    cases M.e
    refine ⟨_, (pss_cons (ps_set (i := 2) sc_law_pairs.nd rfl (by first | exact .inl rfl | exact .inr rfl) (pe_lst pa_nil))
  (pss_cons (ps_for PassesOwn.never rfl (pi_enumT (by rfl) T.enumerate (pa_cons (pe_ix (kx_tup K) (pv 0) pe_int (fun _ _ => rfl)) pa_nil)) (kg_tup K (n := 2) rfl (pgs_cons (pg_name (i := 3) sc_law_pairs.nd rfl (by first | exact .inl rfl | exact .inr rfl)) (pgs_cons (pg_name (i := 4) sc_law_pairs.nd rfl (by first | exact .inl rfl | exact .inr rfl)) pgs_nil)))
  (pss_cons (ps_if (pt_cmpR op_eq (pv 4) pe_int (nomark _)) (pss_one (ps_expr (pe_bm PySem.F.plainAttrs_list PySem.F.slot_list_append PySem.F.type_list_append mt_append (pv 2) (pa_cons (pe_tup (pa_cons (pv 3) (pa_cons (pe_tup pa_nil) pa_nil))) pa_nil)))) pss_nil)
  (pss_cons (ps_if (pt_cmpR op_eq (pv 4) pe_int (nomark _)) (pss_one (ps_expr (pe_bm PySem.F.plainAttrs_list PySem.F.slot_list_extend PySem.F.type_list_extend mt_extend (pv 2) (pa_cons (pe_lc (own := [("_law_one", 5)]) rfl sc_law_pairs.nd (pi_range1 (by rfl) T.range (pa_cons (pv 1) pa_nil)) (blkOk_by (own := [("_law_one", 5)]) (N := ["_law_machine_here", "_law_many", "_law_found", "_law_operator", "_law_arity", "_law_one", "_law_other"]) (sc := defScope s_law_pairs) (by decide +kernel)) (fun _ _ _ _ _ => (pg_name (i := 5) sc_law_pairs.nd rfl (by first | exact .inl rfl | exact .inr rfl))) (fun _ _ _ _ _ => pts_nil) (fun _ _ _ _ _ => (pe_tup (pa_cons (pv 3) (pa_cons (pe_tup (pa_cons (pv 5) pa_nil)) pa_nil))))) pa_nil)))) pss_nil)
  (pss_one (ps_if (pt_cmpR op_eq (pv 4) pe_int (nomark _)) (pss_one (ps_for PassesOwn.never rfl (pi_range1 (by rfl) T.range (pa_cons (pv 1) pa_nil)) (pg_name (i := 5) sc_law_pairs.nd rfl (by first | exact .inl rfl | exact .inr rfl))
  (pss_one (ps_expr (pe_bm PySem.F.plainAttrs_list PySem.F.slot_list_extend PySem.F.type_list_extend mt_extend (pv 2) (pa_cons (pe_lc (own := [("_law_other", 6)]) rfl sc_law_pairs.nd (pi_range1 (by rfl) T.range (pa_cons (pv 1) pa_nil)) (blkOk_by (own := [("_law_other", 6)]) (N := ["_law_machine_here", "_law_many", "_law_found", "_law_operator", "_law_arity", "_law_one", "_law_other"]) (sc := defScope s_law_pairs) (by decide +kernel)) (fun _ _ _ _ _ => (pg_name (i := 6) sc_law_pairs.nd rfl (by first | exact .inl rfl | exact .inr rfl))) (fun _ _ _ _ _ => pts_nil) (fun _ _ _ _ _ => (pe_tup (pa_cons (pv 3) (pa_cons (pe_tup (pa_cons (pv 5) (pa_cons (pv 6) pa_nil))) pa_nil))))) pa_nil)))))) pss_nil)))))
  (pss_one (ps_ret (pv 2))))), ?_⟩
    refine ⟨by simp, fun l hl => ?_⟩
    have ex0 : Ex H (upd H l (.lst [])) := Ex.new hl
    refine ⟨_, rfl, p, _, _, _, rfl, rfl, .of (ex0 _ _ M.at0), rfl, pa, _, rfl, .of (ex0 _ _ M.at1), ?_⟩
    refine for_it walk_n (fun i σ H' => (∃ x3 x4 x5 x6, σ = [some (.ref p), some (vN k), some (.ref l), x3, x4, x5, x6]) ∧ Ex H H' ∧ ∃ xs, H' l = some (.lst xs) ∧ RDs H' xs ((itn (fun op acc => acc ++ prs k op (m.ar.getD op 0)) i []).map dStp)) ⟨⟨_, _, _, _, rfl⟩, ex0, [], upd_same, .nil⟩ (fun i σ H2 _ hP => .of (hP.2.1 _ _ M.at1)) (fun i x σ H1 H2 hi hP hy => ?_) (fun σ H2 hP => ?_)
    · obtain ⟨T1, y1, y2, rfl, nT, rfl, e1, e2⟩ := hy
      cases e1
      rw [List.length_map] at hi
      replace e2 : (m.ar.map vN)[i]? = some y2 := e2
      rw [List.getElem?_map, List.getElem?_eq_getElem hi] at e2
      cases e2
      obtain ⟨⟨x3, x4, x5, x6, rfl⟩, ex, xs, hl1, hxs⟩ := hP
      have exT := Ex.new (o := .tup [.int (i : Nat), vN m.ar[i]]) nT
      have ex1 := ex.trans exT
      have hl2 := exT _ _ hl1
      have hx2 := hxs.ex exT
      generalize hH2 : upd H1 T1 (.tup [.int (i : Nat), vN m.ar[i]]) = H2 at exT ex1 hl2 hx2
      refine ⟨T1, _, rfl, SqT.of (by rw [← hH2]; exact upd_same), rfl, _, _, rfl, _, _, rfl, rfl, ?_⟩
      have ha2 := ok.a2 _ (List.getElem_mem hi)
      have ha6 := ok.a6
      have gd : m.ar.getD i 0 = m.ar[i] := getD_at (List.getElem?_eq_getElem hi)
      have es : itn (fun op acc => acc ++ prs k op (m.ar.getD op 0)) (i + 1) [] = itn (fun op acc => acc ++ prs k op (m.ar.getD op 0)) i [] ++ prs k i m.ar[i] := by rw [← gd]; rfl
      have hal := pairs_len (ar := m.ar) (many := k) i
      generalize hacc : itn (fun op acc => acc ++ prs k op (m.ar.getD op 0)) i [] = acc at hxs hx2 es hal
      have hkk : k * k ≤ 100 * 100 := Nat.mul_le_mul hk hk
      have hxl : xs.length + (k * k + k + 1) < sizeLine := by
        rw [hxs.length, List.length_map]
        have : i * (k * k + k + 1) ≤ 6 * (k * k + k + 1) := Nat.mul_le_mul_right _ (by omega)
        simp only [sizeLine]
        omega
      have fin : ∀ {H3 : Hp} {ys : List V} {y5 y6 : Option V}, Ex H H3 → H3 l = some (.lst (xs ++ ys)) → RDs H3 xs (acc.map dStp) → RDs H3 ys ((prs k i m.ar[i]).map dStp) → (∃ x3 x4 x5 x6, [some (.ref p), some (vN k), some (.ref l), some (.int (i : Nat)), some (vN m.ar[i]), y5, y6] = [some (.ref p), some (vN k), some (.ref l), x3, x4, x5, x6]) ∧ Ex H H3 ∧ ∃ xs, H3 l = some (.lst xs) ∧ RDs H3 xs ((itn (fun op acc => acc ++ prs k op (m.ar.getD op 0)) (i + 1) []).map dStp) := fun {H3 ys y5 y6} h1 h2 h3 h4 =>
        ⟨⟨_, _, _, _, rfl⟩, h1, _, h2, by rw [es, List.map_append]; exact h3.app h4⟩
      generalize m.ar[i] = a at *
      have h3 : a = 0 ∨ a = 1 ∨ a = 2 := by omega
      rcases h3 with rfl | rfl | rfl
      · refine ⟨_, rfl, rfl, _, rfl, itT rfl ?_⟩
        refine ⟨_, rfl, .inl ⟨rfl, xs, .of hl2⟩, ?_⟩
        refine ⟨_, rfl, by simp, fun z hz => ⟨by simp [sizeLine], fun z2 hz2 => ?_⟩⟩
        have exz := (Ex.new (o := .tup []) hz).newT (o := .tup [vN i, .ref z]) hz2
        have hl3 := exz _ _ hl2
        have tu := Tu.lst (o := .lst (xs ++ [.ref z2])) hl3
        refine ⟨l, xs, _, rfl, rfl, hl3, by omega, ?_⟩
        refine ⟨_, rfl, rfl, _, rfl, itF Bool.false_ne_true ?_⟩
        refine ⟨_, rfl, rfl, _, rfl, itF Bool.false_ne_true ?_⟩
        refine fin ((ex1.trans exz).mut hl) upd_same ((hx2.ex exz).tu tu) (.cons ?_ .nil)
        exact (rd_stp (ns := []) (upd_same) (Ex.new hz2 _ _ upd_same)).tu tu
      · refine ⟨_, rfl, rfl, _, rfl, itF Bool.false_ne_true ?_⟩
        refine ⟨_, rfl, rfl, _, rfl, itT rfl ?_⟩
        refine ⟨_, rfl, .inl ⟨rfl, xs, .of hl2⟩, ?_⟩
        refine ⟨_, rfl, _, rfl, by omega, by omega, fun D2 hD => ?_⟩
        refine lc_it (walk_rn (n := k)) (fun j H' => Ex H2 H' ∧ ∃ ys, H' D2 = some (.lst ys) ∧ RDs H' ys (((List.range j).map (fun o => ((i, [o]) : Nd))).map dStp)) ⟨Ex.new hD, [], upd_same, .nil⟩ (fun j H3 _ hP => trivial) (fun j x _ H3 hj hP hy => ?_) (fun H3 hP => ?_)
        · obtain ⟨rfl, rfl⟩ := hy
          obtain ⟨ex3, ys, hys, rys⟩ := hP
          refine ⟨rfl, ?_⟩
          refine ⟨_, rfl, _, rfl, by simp [sizeLine], fun z hz => ⟨by simp [sizeLine], fun z2 hz2 => ?_⟩⟩
          have exz := (Ex.new (o := .tup [.int (j : Nat)]) hz).newT (o := .tup [vN i, .ref z]) hz2
          have hys2 := exz _ _ hys
          have tu := Tu.lst (o := .lst (ys ++ [.ref z2])) hys2
          refine ⟨ys, hys2, by rw [rys.length, List.length_map, List.length_map, List.length_range]; simp only [sizeLine]; omega, (ex3.trans exz).mut hD, _, upd_same, ?_⟩
          rw [List.range_succ, List.map_append, List.map_append]
          exact ((rys.ex exz).tu tu).app (.cons ((rd_stp (ns := [j]) (upd_same) (Ex.new hz2 _ _ upd_same)).tu tu) .nil)
        · obtain ⟨ex3, ys, hys, rys⟩ := hP
          have hl3 := ex3 _ _ hl2
          have tu := Tu.lst (o := .lst (xs ++ ys)) hl3
          have ylen : ys.length = k := by rw [rys.length, List.length_map, List.length_map, List.length_range]
          refine ⟨l, D2, xs, ys, rfl, rfl, hl3, hys, by omega, ?_⟩
          refine ⟨_, rfl, rfl, _, rfl, itF Bool.false_ne_true ?_⟩
          exact fin ((ex1.trans ex3).mut hl) upd_same ((hx2.ex ex3).tu tu) (rys.tu tu)
      · refine ⟨_, rfl, rfl, _, rfl, itF Bool.false_ne_true ?_⟩
        refine ⟨_, rfl, rfl, _, rfl, itF Bool.false_ne_true ?_⟩
        refine ⟨_, rfl, rfl, _, rfl, itT rfl ?_⟩
        refine ⟨_, rfl, _, rfl, by omega, by omega, ?_⟩
        refine for_it (walk_rn (n := k)) (fun j σ H' => (∃ x5 x6, σ = [some (.ref p), some (vN k), some (.ref l), some (.int (i : Nat)), some (vN 2), x5, x6]) ∧ Ex H H' ∧ ∃ ys, H' l = some (.lst (xs ++ ys)) ∧ RDs H' xs (acc.map dStp) ∧ RDs H' ys ((prs2 k i j).map dStp)) ⟨⟨_, _, rfl⟩, ex1, [], by rw [List.append_nil]; exact hl2, hx2, .nil⟩ (fun j σ H4 _ hP => trivial) (fun j x σ _ H4 hj hP hy => ?_) (fun σ H4 hP => ?_)
        · obtain ⟨rfl, rfl⟩ := hy
          obtain ⟨⟨x5, x6, rfl⟩, ex4, ys, hl4, rx4, ry4⟩ := hP
          have ylen := ry4.length
          rw [List.length_map, prs2_len] at ylen
          have hjk : j * k + k ≤ k * k := by rw [← Nat.succ_mul]; exact Nat.mul_le_mul_right _ hj
          refine ⟨_, rfl, .inl ⟨rfl, _, .of hl4⟩, ?_⟩
          refine ⟨_, rfl, _, rfl, by omega, by omega, fun D3 hD3 => ?_⟩
          refine lc_it (walk_rn (n := k)) (fun j2 H' => Ex H4 H' ∧ ∃ zs, H' D3 = some (.lst zs) ∧ RDs H' zs (((List.range j2).map (fun o2 => ((i, [j, o2]) : Nd))).map dStp)) ⟨Ex.new hD3, [], upd_same, .nil⟩ (fun j H5 _ hP => trivial) (fun j2 x _ H5 hj2 hP hy => ?_) (fun H5 hP => ?_)
          · obtain ⟨rfl, rfl⟩ := hy
            obtain ⟨ex5, zs, hzs, rzs⟩ := hP
            refine ⟨rfl, ?_⟩
            refine ⟨_, rfl, _, rfl, _, rfl, by simp [sizeLine], fun z hz => ⟨by simp [sizeLine], fun z2 hz2 => ?_⟩⟩
            have exz := (Ex.new (o := .tup [vN j, vN j2]) hz).newT (o := .tup [vN i, .ref z]) hz2
            have hys2 := exz _ _ hzs
            have tu := Tu.lst (o := .lst (zs ++ [.ref z2])) hys2
            refine ⟨zs, hys2, by rw [rzs.length, List.length_map, List.length_map, List.length_range]; simp only [sizeLine]; omega, (ex5.trans exz).mut hD3, _, upd_same, ?_⟩
            rw [List.range_succ, List.map_append, List.map_append]
            exact ((rzs.ex exz).tu tu).app (.cons ((rd_stp (ns := [j, j2]) (upd_same) (Ex.new hz2 _ _ upd_same)).tu tu) .nil)
          · obtain ⟨ex5, zs, hzs, rzs⟩ := hP
            have hl5 := ex5 _ _ hl4
            have tu := Tu.lst (o := .lst (xs ++ ys ++ zs)) hl5
            have zlen : zs.length = k := by rw [rzs.length, List.length_map, List.length_map, List.length_range]
            refine ⟨l, D3, _, zs, rfl, rfl, hl5, hzs, by rw [List.length_append]; omega, ⟨_, _, rfl⟩, (ex4.trans ex5).mut hl, ys ++ zs, by rw [upd_same, List.append_assoc], (rx4.ex ex5).tu tu, ?_⟩
            rw [prs2_succ, List.map_append]
            exact ((ry4.ex ex5).tu tu).app (rzs.tu tu)
        · obtain ⟨⟨x5, x6, rfl⟩, ex4, ys, hl4, rx4, ry4⟩ := hP
          exact fin ex4 hl4 rx4 ry4
    · obtain ⟨⟨x3, x4, x5, x6, rfl⟩, ex, xs, hl1, hxs⟩ := hP
      rw [List.length_map] at hxs
      exact ⟨_, rfl, q l xs H2 hl ex hl1 hxs⟩
end
end Cp
end

section
set_option Elab.async false
set_option linter.all false
set_option maxRecDepth 100000
set_option maxHeartbeats 4000000
namespace Cp
open PySem PySem.Spec PyProof.Rows L2
theorem catA_of {K : PySem.W.Frag} {H : Hp} {Q : VK} {a b : Addr} {xs ys : List V} (ha : H a = some (.tup xs)) (hb : H b = some (.tup ys)) (hz : xs.length + ys.length ≤ sizeLine) (q : ∀ c H', Ex H H' → H' c = some (.tup (xs ++ ys)) → Q (.ref c) H') : rCatA K (.ref a) (.ref b) H Q := by
  refine ⟨a, b, xs, ys, rfl, rfl, .of ha, .of hb, hz, fun e => ?_, fun _ e => ?_, fun _ _ p hp => q p _ (Ex.new hp) upd_same⟩
  · subst e
    exact q b H (Ex.refl H) hb
  · subst e
    exact q a H (Ex.refl H) (by rw [List.append_nil]; exact ha)
structure TrSz (t : List Nd) : Prop where
  ne : t ≠ []
  sz : ∀ d ∈ t, d.2.length ≤ 1000
section
variable {P : Program} {w : World} {K : PySem.W.Frag} {mg : Str → Option Value} {base : Heap}
def sumL (ts : List (List Nd)) : Nat := (ts.map List.length).sum
theorem sumL_take {ts : List (List Nd)} {i : Nat} {t : List Nd} (h : ts[i]? = some t) : sumL (ts.take (i + 1)) = sumL (ts.take i) + t.length := by
  unfold sumL
  rw [List.take_succ, h, List.map_append, List.sum_append]
  simp
theorem sumL_le (ts : List (List Nd)) (i : Nat) : sumL (ts.take i) ≤ sumL ts := by
  conv => rhs; rw [← List.take_append_drop i ts]
  unfold sumL
  rw [List.map_append, List.sum_append]
  omega
def sp_law_over (K : PySem.W.Frag) : Sp := fun vs H Q _ => ∃ (op : Nat) (a : Addr) (xs : List V) (ts : List (List Nd)), vs = [vN op, .ref a] ∧ SqL K H a xs ∧ RDs H xs (ts.map dT) ∧ (∀ t ∈ ts, TrSz t) ∧ ts.length ≤ 1000 ∧ sumL ts ≤ 100000 ∧
  ∀ (t : List Nd) (v : V) (H' : Hp), Ex H H' → TrSz t → t.length = sumL ts + 1 → RD H' v (dT t) → Q v H'
theorem ok_law_over (T : Tx mg) (D : Def K mg "_law_over" s_law_over) : Cal P w K mg base CX0 "_law_over" 1 ["_law_operator", "_law_trees"] (sp_law_over K) := by
  obtain ⟨f, fd, F, hm⟩ := D.ex
  refine ⟨f, fd, F.ok sc_law_over (fun vs H Q E h => ?_) (fun cdv A outer s H vs Q E hr h => ?_), hm, F.kp, F.binds fun _ _ _ _ _ _ us hl => match us, hl with | [_, _], _ => rfl⟩
  · obtain ⟨op, a, xs, ts, rfl, _⟩ := h
    rfl
  · obtain ⟨op, a, xs, ts, rfl, hS, hR, hts, hl, hsum, q⟩ := h
    have lx : xs.length = ts.length := by rw [hR.length, List.length_map]
    refine ⟨_, (pss_cons (ps_par (i := 2) (j := 3) rfl sc_law_over.nd rfl rfl (by decide) rfl rfl (pa_cons (pe_lst pa_nil) (pa_cons (pe_lst pa_nil) pa_nil)) (by rfl))
  (pss_cons (ps_for PassesOwn.never rfl (ki_list K (pv 1)) (pg_name (i := 4) sc_law_over.nd rfl (by first | exact .inl rfl | exact .inr rfl))
  (pss_cons (ps_set (i := 5) sc_law_over.nd rfl (by first | exact .inl rfl | exact .inr rfl) (pe_callB (kc_len K) (by rfl) T.len boot_len (pa_cons (pv 2) pa_nil)))
  (pss_cons (ps_for PassesOwn.never rfl (ki_tup K (pv 4)) (pg_name (i := 6) sc_law_over.nd rfl (by first | exact .inl rfl | exact .inr rfl))
  (pss_one (ps_expr (pe_bm PySem.F.plainAttrs_list PySem.F.slot_list_append PySem.F.type_list_append mt_append (pv 2) (pa_cons (pe_op (ko_cat K) (pe_tup (pa_cons (pe_ix (kx_tup K) (pv 6) pe_int (fun _ _ => rfl)) pa_nil)) (pe_callTy (kc_tup K) (by rfl) T.tuple boot_tuple (pa_cons (pe_lc (own := [("_law_part", 7)]) rfl sc_law_over.nd (ki_tup K (pe_slice (kl_tup K) (pv 6) (po_some pe_int) po_none)) (blkOk_by (own := [("_law_part", 7)]) (N := ["_law_operator", "_law_trees", "_law_found", "_law_ends", "_law_tree_here", "_law_ahead", "_law_node", "_law_part"]) (sc := defScope s_law_over) (by decide +kernel)) (fun _ _ _ _ _ => (pg_name (i := 7) sc_law_over.nd rfl (by first | exact .inl rfl | exact .inr rfl))) (fun _ _ _ _ _ => pts_nil) (fun _ _ _ _ _ => (pe_op op_add (pv 5) (pv 7)))) pa_nil))) pa_nil)))))
  (pss_one (ps_expr (pe_bm PySem.F.plainAttrs_list PySem.F.slot_list_append PySem.F.type_list_append mt_append (pv 3) (pa_cons (pe_op op_sub (pe_callB (kc_len K) (by rfl) T.len boot_len (pa_cons (pv 2) pa_nil)) pe_int) pa_nil)))))))
  (pss_one (ps_ret (pe_op (ko_cat K) (pe_callTy (kc_tup K) (by rfl) T.tuple boot_tuple (pa_cons (pv 2) pa_nil)) (pe_tup (pa_cons (pe_op (ko_cat K) (pe_tup (pa_cons (pv 0) pa_nil)) (pe_callTy (kc_tup K) (by rfl) T.tuple boot_tuple (pa_cons (pv 3) pa_nil))) pa_nil))))))), ?_⟩
    refine ⟨by simp, fun fd hfd => ⟨by simp, fun ed hed => ⟨_, _, rfl, ?_⟩⟩⟩
    have ex0 := (Ex.new (o := .lst []) hfd).newT (o := .lst []) hed
    have hff : upd (upd H fd (.lst [])) ed (.lst []) fd = some (.lst []) := Ex.new hed _ _ upd_same
    have hee : upd (upd H fd (.lst [])) ed (.lst []) ed = some (.lst []) := upd_same
    have nfe : fd ≠ ed := fun e => by rw [← e, upd_same] at hed; cases hed
    have he0 : H ed = none := (Ex.new hfd).free hed
    generalize upd (upd H fd (.lst [])) ed (.lst []) = H1 at ex0 hff hee
    refine ⟨_, rfl, a, rfl, ⟨xs, SqL.ex hS ex0⟩, ?_⟩
    refine for_it (walk_list (xs := xs)) (fun i σ H' => (∃ x4 x5 x6 x7, σ = [some (vN op), some (.ref a), some (.ref fd), some (.ref ed), x4, x5, x6, x7]) ∧ Ex H H' ∧ (∃ (fs : List V) (ft : List Nd), H' fd = some (.lst fs) ∧ RDs H' fs (ft.map dNd) ∧ ft.length = sumL (ts.take i) ∧ ∀ d ∈ ft, d.2.length ≤ 1000) ∧ ∃ es : List Nat, H' ed = some (.lst (es.map vN)) ∧ es.length = i) ⟨⟨_, _, _, _, rfl⟩, ex0, ⟨[], [], hff, .nil, by simp [sumL], by simp⟩, [], hee, rfl⟩ (fun i σ H' _ hP => SqL.ex hS hP.2.1) (fun i x σ _ H2 hi hP hy => ?_) (fun σ H2 hP => ?_)
    · obtain ⟨rfl, hx⟩ := hy
      obtain ⟨⟨x4, x5, x6, x7, rfl⟩, ex2, ⟨fs, ft, hf2, rfs, hfl, hfz⟩, es, he2, hel⟩ := hP
      obtain ⟨t, ht, rt⟩ := rds_at (hR.ex ex2) hx
      obtain ⟨tsz⟩ := id (hts t (List.mem_of_getElem? ht))
      have tsz2 := (hts t (List.mem_of_getElem? ht)).sz
      obtain ⟨pt, ns, rfl, hpt, rns⟩ := rt.inv_tup
      have ln : ns.length = t.length := by rw [rns.length, List.length_map]
      have hst := sumL_take ht
      have hsi := sumL_le ts (i + 1)
      have fl : fs.length = ft.length := by rw [rfs.length, List.length_map]
      refine ⟨_, rfl, fd, fs, rfl, .inl (.of hf2), ?_⟩
      -- the nodes
      refine ⟨_, rfl, pt, rfl, ⟨ns, .of hpt⟩, ?_⟩
      refine for_it (walk_tup (xs := ns)) (fun j σ H' => (∃ x6 x7, σ = [some (vN op), some (.ref a), some (.ref fd), some (.ref ed), some (.ref pt), some (vN fs.length), x6, x7]) ∧ Ex H H' ∧ H' pt = some (.tup ns) ∧ RDs H' ns (t.map dNd) ∧ (∃ (fs : List V) (ft : List Nd), H' fd = some (.lst fs) ∧ RDs H' fs (ft.map dNd) ∧ ft.length = sumL (ts.take i) + j ∧ ∀ d ∈ ft, d.2.length ≤ 1000) ∧ H' ed = some (.lst (es.map vN))) ⟨⟨_, _, rfl⟩, ex2, hpt, rns, ⟨fs, ft, hf2, rfs, hfl, hfz⟩, he2⟩ (fun j σ H' _ hP => .of hP.2.2.1) (fun j x σ _ H3 hj hP hy => ?_) (fun σ H3 hP => ?_)
      · obtain ⟨rfl, hxj⟩ := hy
        obtain ⟨⟨x6, x7, rfl⟩, ex3, hpt3, rns3, ⟨fs3, ft3, hf3, rfs3, hfl3, hfz3⟩, he3⟩ := hP
        obtain ⟨d, hd, rd⟩ := rds_at rns3 hxj
        obtain ⟨pd, rfl, hpd⟩ := rd.nd
        have hdz := tsz2 d (List.mem_of_getElem? hd)
        have fl3 : fs3.length = ft3.length := by rw [rfs3.length, List.length_map]
        refine ⟨_, rfl, .inl ⟨rfl, fs3, .of hf3⟩, ?_⟩
        refine ⟨_, rfl, pd, _, _, _, rfl, rfl, .of hpd, atI_nat (j := 0) rfl, by simp [sizeLine], fun u1 hu1 => ?_⟩
        have e1 := Ex.new (o := .tup [vN d.1]) hu1
        have hu1' : upd H3 u1 (.tup [vN d.1]) u1 = some (.tup [vN d.1]) := upd_same
        have hpd1 := e1 _ _ hpd
        generalize upd H3 u1 (.tup [vN d.1]) = H4 at e1 hu1' hpd1
        refine ⟨_, rfl, 1, rfl, ?_⟩
        unfold tNoPart
        refine slA_tail hpd1 fun z hz => ?_
        have e2 := Ex.new (o := .tup (d.2.map vN)) hz
        have hz' : upd H4 z (.tup (d.2.map vN)) z = some (.tup (d.2.map vN)) := upd_same
        generalize upd H4 z (.tup (d.2.map vN)) = H5 at e2 hz'
        refine ⟨z, rfl, ⟨_, .of hz'⟩, fun D2 hD => ?_⟩
        refine lc_it (walk_tup (xs := d.2.map vN)) (fun k H' => Ex H5 H' ∧ H' D2 = some (.lst (((d.2.take k).map fun b => fs.length + b).map vN))) ⟨Ex.new hD, upd_same⟩ (fun k H' _ hP => .of (hP.1 _ _ hz')) (fun k x _ H6 hk hP hy => ?_) (fun H6 hP => ?_)
        · obtain ⟨rfl, hxk⟩ := hy
          obtain ⟨ex6, hD6⟩ := hP
          rw [List.length_map] at hk
          rw [List.getElem?_map, List.getElem?_eq_getElem hk] at hxk
          cases hxk
          refine ⟨rfl, _, rfl, _, rfl, _, _, rfl, rfl, _, hD6, by rw [List.length_map, List.length_map, List.length_take]; simp only [sizeLine]; omega, ex6.mut hD, ?_⟩
          rw [upd_same, List.take_succ, List.getElem?_eq_getElem hk, List.map_append, List.map_append]
          rfl
        · obtain ⟨ex6, hD6⟩ := hP
          rw [List.take_of_length_le (by simp)] at hD6
          refine ⟨D2, _, rfl, .inl ⟨.of hD6, fun u2 hu2 => ?_⟩⟩
          have e3 := Ex.new (o := .tup ((d.2.map fun b => fs.length + b).map vN)) hu2
          have hu2' : upd H6 u2 (.tup ((d.2.map fun b => fs.length + b).map vN)) u2 = some (.tup ((d.2.map fun b => fs.length + b).map vN)) := upd_same
          generalize upd H6 u2 (.tup ((d.2.map fun b => fs.length + b).map vN)) = H7 at e3 hu2'
          have e26 := (e2.trans ex6).trans e3
          refine catA_of (e26 _ _ hu1') hu2' (by simp [sizeLine]; omega) fun c H8 e8 hc => ?_
          have e38 := (e1.trans e26).trans e8
          have hf8 := e38 _ _ hf3
          have tu := Tu.lst (o := .lst (fs3 ++ [.ref c])) hf8
          refine ⟨fd, fs3, _, rfl, rfl, hf8, by simp only [sizeLine]; omega, ⟨_, _, rfl⟩, (ex3.trans e38).mut hfd, tu _ _ (e38 _ _ hpt3), (rns3.ex e38).tu tu, ⟨_, ft3 ++ [(d.1, d.2.map fun b => fs.length + b)], upd_same, ?_, ?_, ?_⟩, ?_⟩
          · rw [List.map_append]
            exact ((rfs3.ex e38).tu tu).app (.cons ((rd_nd (d := (d.1, d.2.map fun b => fs.length + b)) hc).tu tu) .nil)
          · rw [List.length_append, hfl3]
            rfl
          · intro d2 hd2
            rcases List.mem_append.mp hd2 with h | h
            · exact hfz3 d2 h
            · rw [List.mem_singleton.mp h]
              simp
              exact hdz
          · rw [upd_ne (Ne.symm nfe)]
            exact e38 _ _ he3
      · obtain ⟨⟨x6, x7, rfl⟩, ex3, hpt3, rns3, ⟨fs3, ft3, hf3, rfs3, hfl3, hfz3⟩, he3⟩ := hP
        have fl3 : fs3.length = ft3.length := by rw [rfs3.length, List.length_map]
        have tpos : 0 < t.length := List.length_pos_iff.mpr tsz
        refine ⟨_, rfl, .inl ⟨rfl, _, .of he3⟩, ?_⟩
        refine ⟨_, rfl, fd, fs3, rfl, .inl (.of hf3), _, _, rfl, rfl, ?_⟩
        have tu := Tu.lst (o := .lst (es.map vN ++ [.int ((fs3.length : Int) - 1)])) he3
        refine ⟨ed, _, _, rfl, rfl, he3, by rw [List.length_map]; simp only [sizeLine]; omega, ⟨_, _, _, _, rfl⟩, ex3.mut he0, ⟨fs3, ft3, by rw [upd_ne nfe]; exact hf3, rfs3.tu tu, by rw [hfl3, ln, hst], hfz3⟩, es ++ [fs3.length - 1], ?_, by simp [hel]⟩
        rw [upd_same, List.map_append]
        have e : ((fs3.length : Int) - 1) = ((fs3.length - 1 : Nat) : Int) := by omega
        show some (HO.lst (List.map vN es ++ [V.int ((fs3.length : Int) - 1)])) = _
        rw [e]
        rfl
    · obtain ⟨⟨x4, x5, x6, x7, rfl⟩, ex2, ⟨fs, ft, hf2, rfs, hfl, hfz⟩, es, he2, hel⟩ := hP
      rw [List.take_of_length_le (by omega)] at hfl
      have fl : fs.length = ft.length := by rw [rfs.length, List.length_map]
      refine ⟨_, rfl, fd, fs, rfl, .inl ⟨.of hf2, fun u1 hu1 => ?_⟩⟩
      have e1 := Ex.new (o := .tup fs) hu1
      have hu1' : upd H2 u1 (.tup fs) u1 = some (.tup fs) := upd_same
      generalize upd H2 u1 (.tup fs) = H3 at e1 hu1'
      refine ⟨_, rfl, by simp [sizeLine], fun u2 hu2 => ?_⟩
      have e2 := Ex.new (o := .tup [vN op]) hu2
      have hu2' : upd H3 u2 (.tup [vN op]) u2 = some (.tup [vN op]) := upd_same
      generalize upd H3 u2 (.tup [vN op]) = H4 at e2 hu2'
      refine ⟨_, rfl, ed, _, rfl, .inl ⟨.of (e2 _ _ (e1 _ _ he2)), fun u3 hu3 => ?_⟩⟩
      have e3 := Ex.new (o := .tup (es.map vN)) hu3
      have hu3' : upd H4 u3 (.tup (es.map vN)) u3 = some (.tup (es.map vN)) := upd_same
      generalize upd H4 u3 (.tup (es.map vN)) = H5 at e3 hu3'
      refine catA_of (e3 _ _ hu2') hu3' (by simp [sizeLine]; omega) fun c H6 e6 hc => ?_
      refine ⟨by simp [sizeLine], fun u4 hu4 => ?_⟩
      have e4 := Ex.new (o := .tup [.ref c]) hu4
      have hu4' : upd H6 u4 (.tup [.ref c]) u4 = some (.tup [.ref c]) := upd_same
      generalize upd H6 u4 (.tup [.ref c]) = H7 at e4 hu4'
      have e37 := ((e2.trans e3).trans e6).trans e4
      refine catA_of (e37 _ _ hu1') hu4' (by simp [sizeLine]; omega) fun c2 H8 e8 hc2 => ?_
      have eAll := (e1.trans e37).trans e8
      refine q (ft ++ [(op, es)]) _ H8 (ex2.trans eAll) ⟨by simp, fun d hd => ?_⟩ (by simp [hfl]) (.tup hc2 ?_)
      · rcases List.mem_append.mp hd with h | h
        · exact hfz d h
        · rw [List.mem_singleton.mp h]
          show es.length ≤ 1000
          omega
      · rw [List.map_append]
        exact (rfs.ex eAll).app (.cons (rd_nd (d := (op, es)) ((e4.trans e8) _ _ hc)) .nil)
end
end Cp
end

section
set_option Elab.async false
set_option linter.all false
set_option maxRecDepth 100000
set_option maxHeartbeats 4000000
namespace Cp
open PySem PySem.Spec PyProof.Rows L2
theorem Pen.put {H : Hp} {pp p : Addr} {n : Nat} {o : HO} (h : Pen H pp n) (e : p ≠ pp) : Pen (upd H p o) pp n := by
  obtain ⟨x0, x1, c, g1, r⟩ := h
  exact ⟨x0, x1, c, by rw [upd_ne e.symm]; exact g1, r⟩
theorem ne_pen {H : Hp} {pp l : Addr} {n : Nat} (hp : Pen H pp n) (h : H l = none) : l ≠ pp := fun z => by
  obtain ⟨xs, h1⟩ := hp.lst
  rw [z, h1] at h
  cases h
section
variable {P : Program} {w : World} {K : PySem.W.Frag} {mg : Str → Option Value} {base : Heap}
def sp_law_tree : Sp := fun vs H Q _ => ∃ (pp : Addr) (va : V) (ar : List Nat) (most n : Nat), vs = [.ref pp, va, vN most] ∧ RD H va (.tuple (ar.map dN)) ∧ ArOk ar ∧ 1 ≤ most ∧ most ≤ 100 ∧ Pen H pp n ∧ n ≤ 900000 ∧
  ∀ (t : List Nd) (v : V) (H' : Hp), OkT ar t → t.length ≤ most → RD H' v (dT t) → Pen H' pp (n + 2 + most * 5) → ExP pp H H' → Q v H'
theorem ok_law_tree (T : Tx mg) (D : Def K mg "_law_tree" s_law_tree) (C_law_draw : Cal P w K mg base CX0 "_law_draw" 1 ["_law_pen_here", "_law_many"] sp_law_draw) (C_law_pick : Cal P w K mg base CX0 "_law_pick" 2 ["_law_pen_here", "_law_some"] (sp_law_pick K)) :
    Cal P w K mg base CX0 "_law_tree" 3 ["_law_pen_here", "_law_arities_here", "_law_most"] sp_law_tree := by
  obtain ⟨f, fd, F, hm⟩ := D.ex
  refine ⟨f, fd, F.ok sc_law_tree (fun vs H Q E h => ?_) (fun cdv A outer s H vs Q E hr h => ?_), hm, F.kp, F.binds fun _ _ _ _ _ _ us hl => match us, hl with | [_, _, _], _ => rfl⟩
  · obtain ⟨pp, va, ar, most, n, rfl, _⟩ := h
    rfl
  · obtain ⟨pp, va, ar, most, n, rfl, hA, aok, hm1, hm2, hp, hn, q⟩ := h
    obtain ⟨pa, rfl, hpa⟩ := hA.nats
    have al1 := aok.h1
    have al4 := aok.h4
    refine ⟨_, (pss_cons (ps_setLc (i := 3) (own := [("_law_operator", 6), ("_law_arity", 9)]) rfl sc_law_tree.nd rfl rfl (sw_true rfl rfl rfl (by decide +kernel)) (pi_enumT (by rfl) T.enumerate (pa_cons (pv 1) pa_nil)) (blkOk_by (own := [("_law_operator", 6), ("_law_arity", 9)]) (N := ["_law_pen_here", "_law_arities_here", "_law_most", "_law_leaves", "_law_found", "_law_turn", "_law_operator", "_law_last", "_law_parts", "_law_arity", "_law_place"]) (sc := defScope s_law_tree) (by decide +kernel)) (fun _ _ _ _ _ => (kg_tup K (n := 2) rfl (pgs_cons (pg_name (i := 6) sc_law_tree.nd rfl (by first | exact .inl rfl | exact .inr rfl)) (pgs_cons (pg_name (i := 9) sc_law_tree.nd rfl (by first | exact .inl rfl | exact .inr rfl)) pgs_nil)))) (fun _ _ _ _ _ => (pts_one (pt_cmpR op_eq (pv 9) pe_int (nomark _)))) (fun _ _ _ _ _ => (pv 6)))
  (pss_cons (ps_set (i := 4) sc_law_tree.nd rfl (by first | exact .inl rfl | exact .inr rfl) (pe_lst (pa_cons (pe_tup (pa_cons (pe_cal C_law_pick (by first | exact hr | exact hr.mono (by decide)) (by rfl) pass0 (pa_cons (pv 0) (pa_cons (pv 3) pa_nil))) pa_nil)) pa_nil)))
  (pss_cons (ps_for PassesOwn.never rfl (pi_range1 (by rfl) T.range (pa_cons (pe_cal C_law_draw (by first | exact hr | exact hr.mono (by decide)) (by rfl) pass0 (pa_cons (pv 0) (pa_cons (pv 2) pa_nil))) pa_nil)) (pg_name (i := 5) sc_law_tree.nd rfl (by first | exact .inl rfl | exact .inr rfl))
  (pss_cons (ps_set (i := 6) sc_law_tree.nd rfl (by first | exact .inl rfl | exact .inr rfl) (pe_cal C_law_draw (by first | exact hr | exact hr.mono (by decide)) (by rfl) pass0 (pa_cons (pv 0) (pa_cons (pe_callB (kc_len K) (by rfl) T.len boot_len (pa_cons (pv 1) pa_nil)) pa_nil))))
  (pss_cons (ps_set (i := 7) sc_law_tree.nd rfl (by first | exact .inl rfl | exact .inr rfl) (pe_op op_sub (pe_callB (kc_len K) (by rfl) T.len boot_len (pa_cons (pv 4) pa_nil)) pe_int))
  (pss_cons (ps_setLc (i := 8) (own := [("_law_place", 10)]) rfl sc_law_tree.nd rfl rfl (sw_true rfl rfl rfl (by decide +kernel)) (pi_range1 (by rfl) T.range (pa_cons (pe_ix (kx_tup K) (pv 1) (pv 6) (fun _ _ => rfl)) pa_nil)) (blkOk_by (own := [("_law_place", 10)]) (N := ["_law_pen_here", "_law_arities_here", "_law_most", "_law_leaves", "_law_found", "_law_turn", "_law_operator", "_law_last", "_law_parts", "_law_arity", "_law_place"]) (sc := defScope s_law_tree) (by decide +kernel)) (fun _ _ _ _ _ => (pg_name (i := 10) sc_law_tree.nd rfl (by first | exact .inl rfl | exact .inr rfl))) (fun _ _ _ _ _ => pts_nil) (fun _ _ _ _ _ => (pe_ifExp (pt_cmpR op_eq (pe_cal C_law_draw (by first | exact hr | exact hr.mono (by decide)) (by rfl) pass0 (pa_cons (pv 0) (pa_cons pe_int pa_nil))) pe_int (nomark _)) (pv 7) (pe_cal C_law_draw (by first | exact hr | exact hr.mono (by decide)) (by rfl) pass0 (pa_cons (pv 0) (pa_cons (pe_callB (kc_len K) (by rfl) T.len boot_len (pa_cons (pv 4) pa_nil)) pa_nil))))))
  (pss_one (ps_expr (pe_bm PySem.F.plainAttrs_list PySem.F.slot_list_append PySem.F.type_list_append mt_append (pv 4) (pa_cons (pe_op (ko_cat K) (pe_tup (pa_cons (pv 6) pa_nil)) (pe_callTy (kc_tup K) (by rfl) T.tuple boot_tuple (pa_cons (pv 8) pa_nil))) pa_nil))))))))
  (pss_one (ps_ret (pe_callTy (kc_tup K) (by rfl) T.tuple boot_tuple (pa_cons (pv 4) pa_nil))))))), ?_⟩
    -- the leaves
    refine ⟨_, rfl, pa, _, rfl, .of hpa, fun lv hlv => ?_⟩
    refine lc_it walk_n (fun i H' => Ex H H' ∧ H' lv = some (.lst (((List.range i).filter fun o => decide (ar.getD o 1 = 0)).map vN))) ⟨Ex.new hlv, upd_same⟩ (fun i H' _ hP => .of (hP.1 _ _ hpa)) (fun i x H1 H2 hi hP hy => ?_) (fun H1 hP => ?_)
    · obtain ⟨T1, y1, y2, rfl, nT, rfl, e1, e2⟩ := hy
      cases e1
      rw [List.length_map] at hi
      replace e2 : (ar.map vN)[i]? = some y2 := e2
      rw [List.getElem?_map, List.getElem?_eq_getElem hi] at e2
      cases e2
      obtain ⟨ex, hD1⟩ := hP
      have exT := Ex.new (o := .tup [.int (i : Nat), vN ar[i]]) nT
      have ex1 := ex.trans exT
      have hD2 := exT _ _ hD1
      have gd : ar.getD i 1 = ar[i] := getD_at (List.getElem?_eq_getElem hi)
      refine ⟨T1, _, rfl, SqT.of upd_same, rfl, _, _, rfl, _, _, rfl, rfl, rfl, ?_⟩
      refine ⟨_, rfl, rfl, _, rfl, ?_⟩
      have ef : (List.range (i + 1)).filter (fun o => decide (ar.getD o 1 = 0)) = (List.range i).filter (fun o => decide (ar.getD o 1 = 0)) ++ (if ar[i] = 0 then [i] else []) := by
        rw [List.range_succ, List.filter_append, List.filter_cons, gd]
        congr 1
        by_cases h : ar[i] = 0 <;> simp [h]
      by_cases h : ar[i] = 0
      · refine itT (by rw [h]; rfl) ?_
        rw [if_pos h] at ef
        refine ⟨_, rfl, _, hD2, ?_, ex1.mut hlv, ?_⟩
        · rw [List.length_map]
          have := List.length_filter_le (fun o => decide (ar.getD o 1 = 0)) (List.range i)
          rw [List.length_range] at this
          simp only [sizeLine]
          omega
        · rw [upd_same, ef, List.map_append]
          rfl
      · refine itF (decIN (j := 0) h) ?_
        rw [if_neg h, List.append_nil] at ef
        exact ⟨ex1, by rw [ef]; exact hD2⟩
    · obtain ⟨ex, hD1⟩ := hP
      rw [List.length_map] at hD1
      generalize hlf : (List.range ar.length).filter (fun o => decide (ar.getD o 1 = 0)) = lf at hD1
      have lfm : ∀ o ∈ lf, ar[o]? = some 0 := fun o ho => by
        rw [← hlf, List.mem_filter, List.mem_range] at ho
        obtain ⟨h1, h2⟩ := ho
        have h3 : ar.getD o 1 = 0 := of_decide_eq_true h2
        rw [getD_at (List.getElem?_eq_getElem h1)] at h3
        rw [List.getElem?_eq_getElem h1, h3]
      have lfp : 1 ≤ lf.length := by
        obtain ⟨o, ho, e⟩ := List.getElem_of_mem aok.h0
        have : o ∈ lf := by
          rw [← hlf, List.mem_filter, List.mem_range]
          exact ⟨ho, decide_eq_true (by rw [getD_at (List.getElem?_eq_getElem ho), e])⟩
        exact List.length_pos_of_mem this
      have lfl : lf.length ≤ 4 := by
        have := List.length_filter_le (fun o => decide (ar.getD o 1 = 0)) (List.range ar.length)
        rw [hlf, List.length_range] at this
        omega
      have hp1 := hp.ex ex
      have nlv : lv ≠ pp := ne_pen hp hlv
      -- the first node
      refine ⟨_, rfl, _, rfl, pp, lv, n, _, rfl, .of hD1, nlv, by rw [List.length_map]; exact lfp, by rw [List.length_map]; omega, hp1, by omega, fun x H2 hx hp2 ho2 => ?_⟩
      obtain ⟨op0, hop0, rfl⟩ := List.mem_map.mp hx
      have e2 : ExP pp H H2 := ex.p.trans (.of ho2)
      refine ⟨by simp [sizeLine], fun u1 hu1 => ?_⟩
      have g1 := Ex.new (o := .tup [vN op0]) hu1
      have hu1' : upd H2 u1 (.tup [vN op0]) u1 = some (.tup [vN op0]) := upd_same
      have hp3 := hp2.ex g1
      have e3 := e2.trans g1.p
      generalize upd H2 u1 (.tup [vN op0]) = H3 at g1 hu1' hp3 e3
      refine ⟨by simp [sizeLine], fun fd hfd => ?_⟩
      have g2 := Ex.new (o := .lst [.ref u1]) hfd
      have hff : upd H3 fd (.lst [.ref u1]) fd = some (.lst [.ref u1]) := upd_same
      have hp4 := hp3.ex g2
      have nfd : fd ≠ pp := ne_pen hp3 hfd
      have fd0 : H fd = none := e3.freeH nfd hfd
      have e4 := e3.trans g2.p
      have r4 : RDs (upd H3 fd (.lst [.ref u1])) [.ref u1] ([((op0, []) : Nd)].map dNd) := .cons (rd_nd (d := (op0, [])) (g2 _ _ hu1')) .nil
      generalize upd H3 fd (.lst [.ref u1]) = H4 at g2 hff hp4 e4 r4
      -- the turns
      refine ⟨_, rfl, _, rfl, pp, most, n + 1, rfl, by omega, by omega, hp4, by omega, fun dt H5 hdt hp5 ho5 => ?_⟩
      have hff5 : H5 fd = some (.lst [.ref u1]) := by rw [ho5 fd nfd]; exact hff
      have e5 := e4.trans (ExP.of ho5)
      have t45 : Tu H4 H5 := (ExP.of ho5).tu hp4
      refine ⟨_, rfl, by omega, by omega, ?_⟩
      refine for_it (walk_rn (n := dt)) (fun i σ H' => (∃ x5 x6 x7 x8 x9 x10, σ = [some (.ref pp), some (.ref pa), some (vN most), some (.ref lv), some (.ref fd), x5, x6, x7, x8, x9, x10]) ∧ ExP pp H H' ∧ Pen H' pp (n + 2 + i * 5) ∧ ∃ (fs : List V) (t : List Nd), H' fd = some (.lst fs) ∧ RDs H' fs (t.map dNd) ∧ t.length = i + 1 ∧ ∀ k d, t[k]? = some d → OkN ar k d)
        ⟨⟨_, _, _, _, _, _, rfl⟩, e5, hp5.mono (by omega), _, [(op0, [])], hff5, r4.tu t45, rfl, ?_⟩ (fun _ _ _ _ _ => trivial) (fun i x σ _ H6 hi hP hy => ?_) (fun σ H6 hP => ?_)
      · intro k d hd
        cases k with
        | zero =>
          cases hd
          exact ⟨lfm op0 hop0, by simp⟩
        | succ k => simp at hd
      · obtain ⟨rfl, rfl⟩ := hy
        obtain ⟨⟨x5, x6, x7, x8, x9, x10, rfl⟩, e6, hp6, fs, t, hf6, rfs, tl, tok⟩ := hP
        have fl : fs.length = t.length := by rw [rfs.length, List.length_map]
        have t06 : Tu H H6 := e6.tu hp
        have hpa6 := t06 _ _ hpa
        -- operator
        refine ⟨_, rfl, _, rfl, pa, _, rfl, .inr (.of hpa6), pp, ar.length, n + 2 + i * 5, by rw [List.length_map]; rfl, al1, by omega, hp6, by omega, fun op H7 hop hp7 ho7 => ?_⟩
        have e7 := e6.trans (ExP.of ho7)
        have t67 : Tu H6 H7 := (ExP.of ho7).tu hp6
        have hf7 : H7 fd = some (.lst fs) := by rw [ho7 fd nfd]; exact hf6
        have hpa7 := t67 _ _ hpa6
        have hal : ar[op] ≤ 2 := aok.h2 _ (List.getElem_mem hop)
        refine ⟨_, rfl, fd, fs, rfl, .inl (.of hf7), _, _, rfl, rfl, ?_⟩
        -- parts
        refine ⟨_, rfl, _, rfl, pa, _, _, _, rfl, rfl, .of hpa7, atI_nat (by rw [List.getElem?_map, List.getElem?_eq_getElem hop]; rfl), _, rfl, by omega, by omega, fun ps hps => ?_⟩
        have nps : ps ≠ pp := ne_pen hp7 hps
        have nfp : fd ≠ ps := fun e => by rw [e, hps] at hf7; cases hf7
        refine lc_it (walk_rn (n := ar[op])) (fun j H' => ExP pp H7 H' ∧ Pen H' pp (n + 2 + i * 5 + 1 + j * 2) ∧ ∃ as : List Nat, H' ps = some (.lst (as.map vN)) ∧ as.length = j ∧ ∀ a ∈ as, a < i + 1) ⟨(ExP.refl pp H7).mut hps, hp7.ex (Ex.new hps), [], upd_same, rfl, by simp⟩ (fun _ _ _ _ => trivial) (fun j x _ H8 hj hP hy => ?_) (fun H8 hP => ?_)
        · obtain ⟨rfl, rfl⟩ := hy
          obtain ⟨e8, hp8, as, has, asl, asm⟩ := hP
          have hf8 := e8 _ _ nfd hf7
          have fin : ∀ {H9 : Hp} {a : Nat} {k : Nat} {v : V}, v = vN a → ExP pp H8 H9 → Pen H9 pp (n + 2 + i * 5 + 1 + j * 2 + k) → k ≤ 2 → a < i + 1 → ∃ acc, H9 ps = some (.lst acc) ∧ acc.length < sizeLine ∧ (ExP pp H7 (upd H9 ps (.lst (acc ++ [v]))) ∧ Pen (upd H9 ps (.lst (acc ++ [v]))) pp (n + 2 + i * 5 + 1 + (j + 1) * 2) ∧ ∃ as : List Nat, upd H9 ps (.lst (acc ++ [v])) ps = some (.lst (as.map vN)) ∧ as.length = j + 1 ∧ ∀ a ∈ as, a < i + 1) := fun {H9 a k v} hv h1 h2 h3 h4 => by
            subst hv
            refine ⟨_, h1 _ _ nps has, by rw [List.length_map]; simp only [sizeLine]; omega, (e8.trans h1).mut hps, (h2.put nps).mono (by omega), as ++ [a], ?_, by simp [asl], fun b hb => ?_⟩
            · rw [upd_same, List.map_append]
              rfl
            · rcases List.mem_append.mp hb with h | h
              · exact asm b h
              · rw [List.mem_singleton.mp h]
                exact h4
          refine ⟨rfl, ?_⟩
          refine ⟨_, rfl, pp, 2, n + 2 + i * 5 + 1 + j * 2, rfl, by decide, by decide, hp8, by omega, fun d1 H9 hd1 hp9 ho9 => ?_⟩
          refine ⟨rfl, _, rfl, ?_⟩
          have hf9 : H9 fd = some (.lst fs) := by rw [ho9 fd nfd]; exact hf8
          by_cases hd0 : d1 = 0
          · refine itT (decI (j := 0) hd0) ?_
            have e : ((fs.length : Int) - 1) = ((fs.length - 1 : Nat) : Int) := by omega
            refine ⟨_, rfl, ?_⟩
            exact fin (a := fs.length - 1) (k := 1) (congrArg V.int e) (ExP.of ho9) hp9 (by omega) (by omega)
          · refine itF (decIN (j := 0) hd0) ?_
            refine ⟨_, rfl, _, rfl, fd, fs, rfl, .inl (.of hf9), pp, fs.length, n + 2 + i * 5 + 1 + j * 2 + 1, rfl, by omega, by omega, hp9, by omega, fun d2 H10 hd2 hp10 ho10 => ?_⟩
            exact fin (k := 2) rfl ((ExP.of ho9).trans (ExP.of ho10)) hp10 (by omega) (by omega)
        · obtain ⟨e8, hp8, as, has, asl, asm⟩ := hP
          have hf8 := e8 _ _ nfd hf7
          have t78 : Tu H7 H8 := e8.tu hp7
          refine ⟨_, rfl, .inl ⟨rfl, fs, .of hf8⟩, ?_⟩
          refine ⟨_, rfl, by simp [sizeLine], fun u2 hu2 => ?_⟩
          have e9 := Ex.new (o := .tup [vN op]) hu2
          have hu2' : upd H8 u2 (.tup [vN op]) u2 = some (.tup [vN op]) := upd_same
          generalize upd H8 u2 (.tup [vN op]) = H9 at e9 hu2'
          refine ⟨_, rfl, ps, _, rfl, .inl ⟨.of (e9 _ _ has), fun u3 hu3 => ?_⟩⟩
          have e10 := Ex.new (o := .tup (as.map vN)) hu3
          have hu3' : upd H9 u3 (.tup (as.map vN)) u3 = some (.tup (as.map vN)) := upd_same
          generalize upd H9 u3 (.tup (as.map vN)) = H10 at e10 hu3'
          refine catA_of (e10 _ _ hu2') hu3' (by simp [sizeLine]; omega) fun c H11 e11 hc => ?_
          have eA := (e9.trans e10).trans e11
          have hf11 := eA _ _ hf8
          have tu := Tu.lst (o := .lst (fs ++ [.ref c])) hf11
          have tAll : Tu H6 H11 := (t67.trans t78).trans eA.tu
          refine ⟨fd, fs, _, rfl, rfl, hf11, by simp only [sizeLine]; omega, ⟨_, _, _, _, _, _, rfl⟩, ((e7.trans e8).trans eA.p).mut fd0, ((hp8.ex eA).put nfd).mono (by omega), _, t ++ [(op, as)], upd_same, ?_, by simp [tl], fun k d hd => ?_⟩
          · rw [List.map_append]
            exact ((rfs.tu tAll).tu tu).app (.cons ((rd_nd (d := (op, as)) hc).tu tu) .nil)
          · by_cases hk : k < t.length
            · rw [List.getElem?_append_left hk] at hd
              exact tok k d hd
            · rw [List.getElem?_append_right (by omega)] at hd
              have hk2 : k = t.length := by
                have := (List.getElem?_eq_some_iff.mp hd).1
                simp at this
                omega
              subst hk2
              rw [Nat.sub_self] at hd
              cases hd
              refine ⟨by rw [List.getElem?_eq_getElem hop, asl], fun a ha => ?_⟩
              rw [tl]
              exact asm a ha
      · obtain ⟨⟨x5, x6, x7, x8, x9, x10, rfl⟩, e6, hp6, fs, t, hf6, rfs, tl, tok⟩ := hP
        refine ⟨_, rfl, fd, fs, rfl, .inl ⟨.of hf6, fun u2 hu2 => ?_⟩⟩
        have e9 := Ex.new (o := .tup fs) hu2
        exact q t _ _ ⟨fun z => by rw [z] at tl; simp at tl, tok, by omega, aok.h2⟩ (by omega) (.tup upd_same (rfs.ex e9)) ((hp6.ex e9).mono (by omega)) (e6.trans e9.p)
end
end Cp
end

section
set_option Elab.async false
set_option linter.all false
set_option maxRecDepth 100000
set_option maxHeartbeats 4000000
namespace Cp
open PySem PySem.Spec PyProof.Rows L2
/-- a machine as it is drawn -/
structure DrM (m : Mach) : Prop where
  ar : ArOk m.ar
  n1 : 1 ≤ m.n
  n3 : m.n ≤ 3
  ins : ∀ i ∈ m.ins, OkI m.ar m.n i ∧ i.price ≤ 5
  iN : m.ins.length ≤ 16
  cv : ∀ c ∈ m.cv, OkC m.n c ∧ c.price ≤ 5
  cN : m.cv.length ≤ 2
theorem DrM.ok {m : Mach} (h : DrM m) : m.Ok :=
  ⟨h.n1, by have := h.n3; omega, h.ar.h1, by have := h.ar.h4; omega, h.ar.h2, fun i hi => (h.ins i hi).1, fun c hc => (h.cv c hc).1, by have := h.iN; omega, by have := h.cN; omega⟩
/-- one form more, that nothing takes -/
structure Wid (m W : Mach) : Prop where
  ar : W.ar = m.ar
  n : W.n = m.n + 1
  cv : W.cv = m.cv
  ins : ∃ more, W.ins = m.ins ++ more ∧ more.length ≤ 4 ∧ ∀ i ∈ more, i.form = m.n ∧ OkI m.ar W.n i ∧ ∀ a ∈ i.args, a < m.n
theorem Wid.ok {m W : Mach} (h : DrM m) (w : Wid m W) : W.Ok := by
  obtain ⟨more, e, hl, hm⟩ := w.ins
  have n3 := h.n3
  have n1 := h.n1
  have en := w.n
  refine ⟨by omega, by omega, by rw [w.ar]; exact h.ar.h1, by rw [w.ar]; have := h.ar.h4; omega, by rw [w.ar]; exact h.ar.h2, fun i hi => ?_, fun c hc => ?_, ?_, by rw [w.cv]; have := h.cN; omega⟩
  · rw [e] at hi
    rw [w.ar]
    rcases List.mem_append.mp hi with hi | hi
    · obtain ⟨⟨h1, h2, h3, h4, h5⟩, _⟩ := h.ins i hi
      exact ⟨by omega, h2, fun a ha => by have := h3 a ha; omega, h4, h5⟩
    · exact (hm i hi).2.1
  · rw [w.cv] at hc
    obtain ⟨⟨h1, h2, h3, h4, h5⟩, _⟩ := h.cv c hc
    exact ⟨by omega, by omega, h3, h4, h5⟩
  · rw [e, List.length_append]
    have := h.iN
    omega
theorem rd_ins {H : Hp} {a b : Addr} {i : Ins} (h : H a = some (.tup [vN i.form, vN i.op, .ref b, .int i.price])) (h2 : H b = some (.tup (i.args.map vN))) : RD H (.ref a) (dIns i) := .tup h (.cons (.int _) (.cons (.int _) (.cons (.tup h2 (rds_n _)) (.cons (.int _) .nil))))
theorem rd_cv {H : Hp} {a : Addr} {c : Cv} (h : H a = some (.tup [vN c.first, vN c.last, .int c.price])) : RD H (.ref a) (dCv c) := .tup h (.cons (.int _) (.cons (.int _) (.cons (.int _) .nil)))
section
variable {P : Program} {w : World} {K : PySem.W.Frag} {mg : Str → Option Value} {base : Heap}
def sp_law_machine : Sp := fun vs H Q _ => ∃ (pp : Addr) (dear n : Nat), vs = [.ref pp, .int 3, vN dear] ∧ dear ≤ 5 ∧ Pen H pp n ∧ n ≤ 900000 ∧ ∀ (m : Mach) (v : V) (H' : Hp), DrM m → RD H' v (dM m) → Pen H' pp (n + 81) → ExP pp H H' → Q v H'
theorem ok_law_machine (T : Tx mg) (D : Def K mg "_law_machine" s_law_machine) (C_law_draw : Cal P w K mg base CX0 "_law_draw" 1 ["_law_pen_here", "_law_many"] sp_law_draw) (C_law_arities : Cal P w K mg base CX0 "_law_arities" 3 ["_law_pen_here"] sp_law_arities) :
    Cal P w K mg base CX0 "_law_machine" 4 ["_law_pen_here", "_law_forms", "_law_dear"] sp_law_machine := by
  obtain ⟨f, fd, F, hm⟩ := D.ex
  refine ⟨f, fd, F.ok sc_law_machine (fun vs H Q E h => ?_) (fun cdv A outer s H vs Q E hr h => ?_), hm, F.kp, F.binds fun _ _ _ _ _ _ us hl => match us, hl with | [_, _, _], _ => rfl⟩
  · obtain ⟨pp, dear, n, rfl, _⟩ := h
    rfl
  · obtain ⟨pp, dear, n, rfl, hde, hp, hn, q⟩ := h
    refine ⟨_, (pss_cons (ps_asg (pe_tup (pa_cons (pe_cal C_law_arities (by first | exact hr | exact hr.mono (by decide)) (by rfl) pass0 (pa_cons (pv 0) pa_nil)) (pa_cons (pe_op op_add pe_int (pe_cal C_law_draw (by first | exact hr | exact hr.mono (by decide)) (by rfl) pass0 (pa_cons (pv 0) (pa_cons (pv 1) pa_nil)))) (pa_cons (pe_lst pa_nil) pa_nil)))) (kg_tup K (n := 3) rfl (pgs_cons (pg_name (i := 3) sc_law_machine.nd rfl (by first | exact .inl rfl | exact .inr rfl)) (pgs_cons (pg_name (i := 4) sc_law_machine.nd rfl (by first | exact .inl rfl | exact .inr rfl)) (pgs_cons (pg_name (i := 5) sc_law_machine.nd rfl (by first | exact .inl rfl | exact .inr rfl)) pgs_nil)))))
  (pss_cons (ps_for PassesOwn.never rfl (pi_enumT (by rfl) T.enumerate (pa_cons (pv 3) pa_nil)) (kg_tup K (n := 2) rfl (pgs_cons (pg_name (i := 6) sc_law_machine.nd rfl (by first | exact .inl rfl | exact .inr rfl)) (pgs_cons (pg_name (i := 7) sc_law_machine.nd rfl (by first | exact .inl rfl | exact .inr rfl)) pgs_nil)))
  (pss_one (ps_for PassesOwn.never rfl (pi_range1 (by rfl) T.range (pa_cons (pe_op op_add pe_int (pe_cal C_law_draw (by first | exact hr | exact hr.mono (by decide)) (by rfl) pass0 (pa_cons (pv 0) (pa_cons (pe_op op_add pe_int (pv 7)) pa_nil)))) pa_nil)) (pg_name (i := 8) sc_law_machine.nd rfl (by first | exact .inl rfl | exact .inr rfl))
  (pss_cons (ps_set (i := 9) sc_law_machine.nd rfl (by first | exact .inl rfl | exact .inr rfl) (pe_callTy (kc_tup K) (by rfl) T.tuple boot_tuple (pa_cons (pe_lc (own := [("_law_place", 12)]) rfl sc_law_machine.nd (pi_range1 (by rfl) T.range (pa_cons (pv 7) pa_nil)) (blkOk_by (own := [("_law_place", 12)]) (N := ["_law_pen_here", "_law_forms", "_law_dear", "_law_arities_here", "_law_many", "_law_found", "_law_operator", "_law_arity", "_law_turn", "_law_arguments", "_law_legs", "_law_first", "_law_place"]) (sc := defScope s_law_machine) (by decide +kernel)) (fun _ _ _ _ _ => (pg_name (i := 12) sc_law_machine.nd rfl (by first | exact .inl rfl | exact .inr rfl))) (fun _ _ _ _ _ => pts_nil) (fun _ _ _ _ _ => (pe_cal C_law_draw (by first | exact hr | exact hr.mono (by decide)) (by rfl) pass0 (pa_cons (pv 0) (pa_cons (pv 4) pa_nil))))) pa_nil)))
  (pss_one (ps_expr (pe_bm PySem.F.plainAttrs_list PySem.F.slot_list_append PySem.F.type_list_append mt_append (pv 5) (pa_cons (pe_tup (pa_cons (pe_cal C_law_draw (by first | exact hr | exact hr.mono (by decide)) (by rfl) pass0 (pa_cons (pv 0) (pa_cons (pv 4) pa_nil))) (pa_cons (pv 6) (pa_cons (pv 9) (pa_cons (pe_cal C_law_draw (by first | exact hr | exact hr.mono (by decide)) (by rfl) pass0 (pa_cons (pv 0) (pa_cons (pe_op op_add pe_int (pv 2)) pa_nil))) pa_nil))))) pa_nil))))))))
  (pss_cons (ps_set (i := 10) sc_law_machine.nd rfl (by first | exact .inl rfl | exact .inr rfl) (pe_lst pa_nil))
  (pss_cons (ps_for PassesOwn.never rfl (pi_range1 (by rfl) T.range (pa_cons (pe_ifExp (pt_cmpR op_gt (pv 4) pe_int (nomark _)) (pe_cal C_law_draw (by first | exact hr | exact hr.mono (by decide)) (by rfl) pass0 (pa_cons (pv 0) (pa_cons pe_int pa_nil))) pe_int) pa_nil)) (pg_name (i := 8) sc_law_machine.nd rfl (by first | exact .inl rfl | exact .inr rfl))
  (pss_cons (ps_set (i := 11) sc_law_machine.nd rfl (by first | exact .inl rfl | exact .inr rfl) (pe_cal C_law_draw (by first | exact hr | exact hr.mono (by decide)) (by rfl) pass0 (pa_cons (pv 0) (pa_cons (pv 4) pa_nil))))
  (pss_one (ps_expr (pe_bm PySem.F.plainAttrs_list PySem.F.slot_list_append PySem.F.type_list_append mt_append (pv 10) (pa_cons (pe_tup (pa_cons (pv 11) (pa_cons (pe_op op_mod (pe_op op_add (pe_op op_add (pv 11) pe_int) (pe_cal C_law_draw (by first | exact hr | exact hr.mono (by decide)) (by rfl) pass0 (pa_cons (pv 0) (pa_cons (pe_op op_sub (pv 4) pe_int) pa_nil)))) (pv 4)) (pa_cons (pe_cal C_law_draw (by first | exact hr | exact hr.mono (by decide)) (by rfl) pass0 (pa_cons (pv 0) (pa_cons (pe_op op_add pe_int (pv 2)) pa_nil))) pa_nil)))) pa_nil))))))
  (pss_one (ps_ret (pe_tup (pa_cons (pv 3) (pa_cons (pv 4) (pa_cons (pe_callTy (kc_tup K) (by rfl) T.tuple boot_tuple (pa_cons (pv 5) pa_nil)) (pa_cons (pe_callTy (kc_tup K) (by rfl) T.tuple boot_tuple (pa_cons (pv 10) pa_nil)) pa_nil))))))))))), ?_⟩
    refine ⟨_, rfl, pp, n, rfl, hp, by omega, fun ar va H1 aok hA hp1 e1 => ?_⟩
    refine ⟨_, rfl, _, rfl, pp, 3, n + 5, rfl, by decide, by decide, hp1, by omega, fun d H2 hd hp2 ho2 => ?_⟩
    have e2 := e1.trans (ExP.of ho2)
    have hA2 := hA.tu ((ExP.of ho2).tu hp1)
    refine ⟨_, _, rfl, rfl, by simp, fun fd hfd => ⟨by simp [sizeLine], fun t ht => ?_⟩⟩
    have nfd : fd ≠ pp := ne_pen hp2 hfd
    have fd0 : H fd = none := e2.freeH nfd hfd
    have g1 := (Ex.new (o := .lst []) hfd).newT (o := .tup [va, .int (1 + (d : Int)), .ref fd]) ht
    have hff : upd (upd H2 fd (.lst [])) t (.tup [va, .int (1 + (d : Int)), .ref fd]) fd = some (.lst []) := Ex.new ht _ _ upd_same
    have htt : upd (upd H2 fd (.lst [])) t (.tup [va, .int (1 + (d : Int)), .ref fd]) t = some (.tup [va, .int (1 + (d : Int)), .ref fd]) := upd_same
    show gTup K 3 _ _ _ (upd (upd H2 fd (.lst [])) t (.tup [va, .int (1 + (d : Int)), .ref fd])) _
    generalize upd (upd H2 fd (.lst [])) t (.tup [va, .int (1 + (d : Int)), .ref fd]) = H3 at g1 hff htt
    refine ⟨t, _, rfl, .of htt, rfl, _, _, rfl, _, _, rfl, _, _, rfl, rfl, ?_⟩
    have em : (1 + (d : Int)) = ((d + 1 : Nat) : Int) := by omega
    rw [em]
    generalize hmany : d + 1 = many
    have e3 := e2.trans g1.p
    have hp3 := hp2.ex g1
    have hA3 := hA2.ex g1
    obtain ⟨pa, rfl, hpa⟩ := hA3.nats
    have al1 := aok.h1
    have al4 := aok.h4
    refine ⟨_, rfl, pa, _, rfl, .of hpa, ?_⟩
    refine for_it walk_n (fun i σ H' => (∃ x6 x7 x8 x9 x10 x11 x12, σ = [some (.ref pp), some (.int 3), some (vN dear), some (.ref pa), some (vN many), some (.ref fd), x6, x7, x8, x9, x10, x11, x12]) ∧ ExP pp H H' ∧ H' pa = some (.tup (ar.map vN)) ∧ Pen H' pp (n + 6 + i * 17) ∧ ∃ (fs : List V) (ins : List Ins), H' fd = some (.lst fs) ∧ RDs H' fs (ins.map dIns) ∧ ins.length ≤ i * 4 ∧ ∀ x ∈ ins, OkI ar many x ∧ x.price ≤ 5)
      ⟨⟨_, _, _, _, _, _, _, rfl⟩, e3, hpa, hp3.mono (by omega), [], [], hff, .nil, by simp, by simp⟩ (fun i σ H' _ hP => .of hP.2.2.1) (fun i x σ H4 H5 hi hP hy => ?_) (fun σ H4 hP => ?_)
    · obtain ⟨T1, y1, y2, rfl, nT, rfl, q1, q2⟩ := hy
      cases q1
      rw [List.length_map] at hi
      replace q2 : (ar.map vN)[i]? = some y2 := q2
      rw [List.getElem?_map, List.getElem?_eq_getElem hi] at q2
      cases q2
      obtain ⟨⟨x6, x7, x8, x9, x10, x11, x12, rfl⟩, e4, hpa4, hp4, fs, ins, hf4, rfs, hil, hio⟩ := hP
      have g2 := Ex.new (o := .tup [.int (i : Nat), vN ar[i]]) nT
      have hTT : upd H4 T1 (.tup [.int (i : Nat), vN ar[i]]) T1 = some (.tup [.int (i : Nat), vN ar[i]]) := upd_same
      generalize upd H4 T1 (.tup [.int (i : Nat), vN ar[i]]) = H5 at g2 hTT
      have hal : ar[i] ≤ 2 := aok.h2 _ (List.getElem_mem hi)
      have har : ar[i]? = some ar[i] := List.getElem?_eq_getElem hi
      generalize ar[i] = ai at *
      refine ⟨T1, _, rfl, .of hTT, rfl, _, _, rfl, _, _, rfl, rfl, ?_⟩
      have e5 := e4.trans g2.p
      have hp5 := hp4.ex g2
      refine ⟨_, rfl, _, rfl, _, _, rfl, rfl, pp, 2 + ai, n + 6 + i * 17, by simp, by omega, by omega, hp5, by omega, fun dt H6 hdt hp6 ho6 => ?_⟩
      have e6 := e5.trans (ExP.of ho6)
      have t56 : Tu H5 H6 := (ExP.of ho6).tu hp5
      have hf6 : H6 fd = some (.lst fs) := by rw [ho6 fd nfd]; exact g2 _ _ hf4
      refine ⟨_, _, rfl, rfl, _, rfl, by omega, by omega, ?_⟩
      refine for_it (walk_rn (n := dt + 1) (by omega)) (fun j σ H' => (∃ x8 x9 x10 x11 x12, σ = [some (.ref pp), some (.int 3), some (vN dear), some (.ref pa), some (vN many), some (.ref fd), some (vN i), some (vN ai), x8, x9, x10, x11, x12]) ∧ ExP pp H H' ∧ H' pa = some (.tup (ar.map vN)) ∧ Pen H' pp (n + 6 + i * 17 + 1 + j * 4) ∧ ∃ (fs : List V) (ins : List Ins), H' fd = some (.lst fs) ∧ RDs H' fs (ins.map dIns) ∧ ins.length ≤ i * 4 + j ∧ ∀ x ∈ ins, OkI ar many x ∧ x.price ≤ 5)
        ⟨⟨_, _, _, _, _, rfl⟩, e6, t56 _ _ (g2 _ _ hpa4), hp6.mono (by omega), fs, ins, hf6, (rfs.ex g2).tu t56, hil, hio⟩ (fun _ _ _ _ _ => trivial) (fun j x σ _ H7 hj hP hy => ?_) (fun σ H7 hP => ?_)
      · clear hf6 hio hil rfs hf4 fs ins
        obtain ⟨rfl, rfl⟩ := hy
        obtain ⟨⟨x8, x9, x10, x11, x12, rfl⟩, e7, hpa7, hp7, fs, ins, hf7, rfs, hil, hio⟩ := hP
        have fl : fs.length = ins.length := by rw [rfs.length, List.length_map]
        -- the arguments
        refine ⟨_, rfl, _, rfl, by omega, by omega, fun D2 hD => ?_⟩
        have nD : D2 ≠ pp := ne_pen hp7 hD
        refine lc_it (walk_rn (n := ai)) (fun k H' => ExP pp H7 H' ∧ Pen H' pp (n + 6 + i * 17 + 1 + j * 4 + k) ∧ ∃ as : List Nat, H' D2 = some (.lst (as.map vN)) ∧ as.length = k ∧ ∀ a ∈ as, a < many) ⟨(ExP.refl pp H7).mut hD, hp7.ex (Ex.new hD), [], upd_same, rfl, by simp⟩ (fun _ _ _ _ => trivial) (fun k x _ H8 hk hP hy => ?_) (fun H8 hP => ?_)
        · obtain ⟨rfl, rfl⟩ := hy
          obtain ⟨e8, hp8, as, has, asl, asm⟩ := hP
          refine ⟨rfl, ?_⟩
          refine ⟨_, rfl, _, rfl, pp, many, _, rfl, by omega, by omega, hp8, by omega, fun a H9 ha hp9 ho9 => ?_⟩
          refine ⟨_, by rw [ho9 D2 nD]; exact has, by rw [List.length_map]; simp only [sizeLine]; omega, (e8.trans (ExP.of ho9)).mut hD, (hp9.put nD).mono (by omega), as ++ [a], ?_, by simp [asl], fun b hb => ?_⟩
          · rw [upd_same, List.map_append]
            rfl
          · rcases List.mem_append.mp hb with h | h
            · exact asm b h
            · rw [List.mem_singleton.mp h]
              exact ha
        · obtain ⟨e8, hp8, as, has, asl, asm⟩ := hP
          refine ⟨D2, _, rfl, .inl ⟨.of has, fun u1 hu1 => ?_⟩⟩
          have g3 := Ex.new (o := .tup (as.map vN)) hu1
          have hu1' : upd H8 u1 (.tup (as.map vN)) u1 = some (.tup (as.map vN)) := upd_same
          generalize upd H8 u1 (.tup (as.map vN)) = H9 at g3 hu1'
          have hp9 := hp8.ex g3
          have hf9 := g3 _ _ (e8 _ _ nfd hf7)
          refine ⟨_, rfl, .inl ⟨rfl, fs, .of hf9⟩, ?_⟩
          refine ⟨_, rfl, _, rfl, pp, many, _, rfl, by omega, by omega, hp9, by omega, fun fo H10 hfo hp10 ho10 => ?_⟩
          refine ⟨_, rfl, _, rfl, _, rfl, _, rfl, _, _, rfl, rfl, pp, 1 + dear, _, by simp, by omega, by omega, hp10, by omega, fun pr H11 hpr hp11 ho11 => ?_⟩
          have e911 := (ExP.of ho10).trans (ExP.of ho11)
          have t911 : Tu H9 H11 := e911.tu hp9
          refine ⟨by simp [sizeLine], fun u2 hu2 => ?_⟩
          have g4 := Ex.new (o := .tup [vN fo, vN i, .ref u1, vN pr]) hu2
          have hu2' : upd H11 u2 (.tup [vN fo, vN i, .ref u1, vN pr]) u2 = some (.tup [vN fo, vN i, .ref u1, vN pr]) := upd_same
          generalize upd H11 u2 (.tup [vN fo, vN i, .ref u1, vN pr]) = H12 at g4 hu2'
          have hf12 := g4 _ _ (e911 _ _ nfd hf9)
          have tu := Tu.lst (o := .lst (fs ++ [.ref u2])) hf12
          have t712 : Tu H7 H12 := (((e8.tu hp7).trans g3.tu).trans t911).trans g4.tu
          have e12 := (((e7.trans e8).trans g3.p).trans e911).trans g4.p
          refine ⟨fd, fs, _, rfl, rfl, hf12, by simp only [sizeLine]; omega, ⟨_, _, _, _, _, rfl⟩, e12.mut fd0, tu _ _ (t712 _ _ hpa7), ((hp11.ex g4).put nfd).mono (by omega), _, ins ++ [⟨fo, i, as, (pr : Int)⟩], upd_same, ?_, by rw [List.length_append]; simp; omega, fun x hx => ?_⟩
          · rw [List.map_append]
            exact ((rfs.tu t712).tu tu).app (.cons ((rd_ins (i := ⟨fo, i, as, (pr : Int)⟩) hu2' (g4 _ _ (t911 _ _ hu1'))).tu tu) .nil)
          · rcases List.mem_append.mp hx with h | h
            · exact hio x h
            · rw [List.mem_singleton.mp h]
              exact ⟨⟨hfo, by rw [asl]; exact har, asm, by show (0 : Int) ≤ (pr : Int); omega, by show (pr : Int) ≤ 20; omega⟩, by show (pr : Int) ≤ 5; omega⟩
      · obtain ⟨⟨x8, x9, x10, x11, x12, rfl⟩, e7, hpa7, hp7, fs, ins, hf7, rfs, hil, hio⟩ := hP
        exact ⟨⟨_, _, _, _, _, _, _, rfl⟩, e7, hpa7, hp7.mono (by omega), fs, ins, hf7, rfs, by omega, hio⟩
    · obtain ⟨⟨x6, x7, x8, x9, x10, x11, x12, rfl⟩, e4, hpa4, hp4, fs, ins, hf4, rfs, hil, hio⟩ := hP
      rw [List.length_map] at hp4 hil
      -- the legs
      refine ⟨by simp, fun lg hlg => ?_⟩
      have nlg : lg ≠ pp := ne_pen hp4 hlg
      have nlf : lg ≠ fd := fun e => by rw [e, hf4] at hlg; cases hlg
      have lg0 : H lg = none := e4.freeH nlg hlg
      have g5 := Ex.new (o := .lst []) hlg
      have hll : upd H4 lg (.lst []) lg = some (.lst []) := upd_same
      generalize upd H4 lg (.lst []) = H5 at g5 hll
      have e5 := e4.trans g5.p
      have hp5 := hp4.ex g5
      have hpa5 := g5 _ _ hpa4
      have hf5 := g5 _ _ hf4
      have rfs5 := rfs.ex g5
      refine ⟨_, rfl, _, _, rfl, rfl, _, rfl, ?_⟩
      by_cases h1 : 1 < many
      · refine itT (decide_eq_true (by omega)) ?_
        refine ⟨_, rfl, pp, 3, n + 6 + ar.length * 17, rfl, by decide, by decide, hp5, by omega, fun dt H6 hdt hp6 ho6 => ?_⟩
        have e6 := e5.trans (ExP.of ho6)
        have t56 : Tu H5 H6 := (ExP.of ho6).tu hp5
        have hpa6 := t56 _ _ hpa5
        have hf6 : H6 fd = some (.lst fs) := by rw [ho6 fd nfd]; exact hf5
        have hll6 : H6 lg = some (.lst []) := by rw [ho6 lg nlg]; exact hll
        have rfs6 := rfs5.tu t56
        replace hp6 : Pen H6 pp (n + 75 + 0 * 3) := hp6.mono (by omega)
        have hcase : 1 < many ∨ dt = 0 := .inl h1
        refine ⟨_, rfl, by omega, by omega, ?_⟩
        refine for_it (walk_rn (n := dt) (by rfl)) (fun i σ H' => (∃ x6 x7 x8 x9 x11 x12, σ = [some (.ref pp), some (.int 3), some (vN dear), some (.ref pa), some (vN many), some (.ref fd), x6, x7, x8, x9, some (.ref lg), x11, x12]) ∧ ExP pp H H' ∧ H' pa = some (.tup (ar.map vN)) ∧ Pen H' pp (n + 75 + i * 3) ∧ H' fd = some (.lst fs) ∧ RDs H' fs (ins.map dIns) ∧ ∃ (ls : List V) (cv : List Cv), H' lg = some (.lst ls) ∧ RDs H' ls (cv.map dCv) ∧ cv.length = i ∧ ∀ c ∈ cv, OkC many c ∧ c.price ≤ 5)
          ⟨⟨_, _, _, _, _, _, rfl⟩, e6, hpa6, hp6, hf6, rfs6, [], [], hll6, .nil, rfl, by simp⟩ (fun _ _ _ _ _ => trivial) (fun i x σ _ H7 hi hP hy => ?_) (fun σ H7 hP => ?_)
        · obtain ⟨rfl, rfl⟩ := hy
          obtain ⟨⟨x6, x7, x8, x9, x11, x12, rfl⟩, e7, hpa7, hp7, hf7, rfs7, ls, cv, hl7, rls, cl, cok⟩ := hP
          have h1m : 1 < many := hcase.resolve_right (by omega)
          have ll : ls.length = cv.length := by rw [rls.length, List.length_map]
          refine ⟨_, rfl, _, rfl, pp, many, _, rfl, by omega, by omega, hp7, by omega, fun a H8 ha hp8 ho8 => ?_⟩
          have t78 : Tu H7 H8 := (ExP.of ho8).tu hp7
          have hl8 : H8 lg = some (.lst ls) := by rw [ho8 lg nlg]; exact hl7
          refine ⟨_, rfl, .inl ⟨rfl, ls, .of hl8⟩, ?_⟩
          refine ⟨_, rfl, _, rfl, _, _, rfl, rfl, _, rfl, _, rfl, _, _, rfl, rfl, pp, many - 1, _, ?_, by omega, by omega, hp8, by omega, fun b H9 hb hp9 ho9 => ?_⟩
          · show [V.ref pp, V.int ((many : Int) - 1)] = _
            rw [show ((many : Int) - 1) = ((many - 1 : Nat) : Int) by omega]
          · refine ⟨_, _, rfl, rfl, _, rfl, _, _, rfl, rfl, (by omega : (0 : Int) < (many : Int)), ?_⟩
            refine ⟨_, rfl, _, rfl, _, _, rfl, rfl, pp, 1 + dear, _, by simp, by omega, by omega, hp9, by omega, fun pr H10 hpr hp10 ho10 => ?_⟩
            refine ⟨by simp [sizeLine], fun u2 hu2 => ?_⟩
            have el : (((a : Int) + 1 + (b : Int)) % (many : Int)) = (((a + 1 + b) % many : Nat) : Int) := by
              rw [Int.natCast_emod]
              congr 1
            have t810 : Tu H8 H10 := ((ExP.of ho9).trans (ExP.of ho10)).tu hp8
            have hl10 : H10 lg = some (.lst ls) := by rw [ho10 lg nlg, ho9 lg nlg]; exact hl8
            have hf10 : H10 fd = some (.lst fs) := by rw [ho10 fd nfd, ho9 fd nfd, ho8 fd nfd]; exact hf7
            have g4 := Ex.new (o := .tup [vN a, .int (((a : Int) + 1 + (b : Int)) % (many : Int)), vN pr]) hu2
            have hu2' : upd H10 u2 (.tup [vN a, .int (((a : Int) + 1 + (b : Int)) % (many : Int)), vN pr]) u2 = some (.tup [vN a, vN ((a + 1 + b) % many), vN pr]) := by rw [upd_same, el]
            have hl11 := g4 _ _ hl10
            have tu := Tu.lst (o := .lst (ls ++ [.ref u2])) hl11
            have t711 : Tu H7 (upd H10 u2 (.tup [vN a, .int (((a : Int) + 1 + (b : Int)) % (many : Int)), vN pr])) := (t78.trans t810).trans g4.tu
            have e11 := (((e7.trans (ExP.of ho8)).trans (ExP.of ho9)).trans (ExP.of ho10)).trans g4.p
            refine ⟨lg, ls, _, rfl, rfl, hl11, by simp only [sizeLine]; omega, ⟨_, _, _, _, _, _, rfl⟩, e11.mut lg0, tu _ _ (t711 _ _ hpa7), ((hp10.ex g4).put nlg).mono (by omega), by rw [upd_ne (Ne.symm nlf)]; exact g4 _ _ hf10, (rfs7.tu t711).tu tu, _, cv ++ [⟨a, (a + 1 + b) % many, (pr : Int)⟩], upd_same, ?_, by simp [cl], fun x hx => ?_⟩
            · rw [List.map_append]
              exact ((rls.tu t711).tu tu).app (.cons ((rd_cv (c := ⟨a, (a + 1 + b) % many, (pr : Int)⟩) hu2').tu tu) .nil)
            · rcases List.mem_append.mp hx with h | h
              · exact cok x h
              · rw [List.mem_singleton.mp h]
                refine ⟨⟨ha, Nat.mod_lt _ (by omega), ?_, by show (0 : Int) ≤ (pr : Int); omega, by show (pr : Int) ≤ 20; omega⟩, by show (pr : Int) ≤ 5; omega⟩
                show a ≠ (a + 1 + b) % many
                by_cases hw : a + 1 + b < many
                · rw [Nat.mod_eq_of_lt hw]
                  omega
                · rw [Nat.mod_eq_sub_mod (by omega), Nat.mod_eq_of_lt (by omega)]
                  omega
        · obtain ⟨⟨x6, x7, x8, x9, x11, x12, rfl⟩, e7, hpa7, hp7, hf7, rfs7, ls, cv, hl7, rls, cl, cok⟩ := hP
          refine ⟨_, rfl, _, rfl, _, rfl, fd, fs, rfl, .inl ⟨.of hf7, fun u1 hu1 => ?_⟩⟩
          have k1 := Ex.new (o := .tup fs) hu1
          have hu1' : upd H7 u1 (.tup fs) u1 = some (.tup fs) := upd_same
          generalize upd H7 u1 (.tup fs) = H8 at k1 hu1'
          refine ⟨_, rfl, lg, ls, rfl, .inl ⟨.of (k1 _ _ hl7), fun u2 hu2 => ?_⟩⟩
          have k2 := Ex.new (o := .tup ls) hu2
          have hu2' : upd H8 u2 (.tup ls) u2 = some (.tup ls) := upd_same
          generalize upd H8 u2 (.tup ls) = H9 at k2 hu2'
          refine ⟨by simp [sizeLine], fun u3 hu3 => ?_⟩
          have k3 := Ex.new (o := .tup [.ref pa, vN many, .ref u1, .ref u2]) hu3
          have k13 := (k1.trans k2).trans k3
          refine q ⟨ar, many, ins, cv⟩ _ _ ⟨aok, by show 1 ≤ many; omega, by show many ≤ 3; omega, hio, by show ins.length ≤ 16; omega, cok, by show cv.length ≤ 2; omega⟩ ?_ ((hp7.ex k13).mono (by omega)) (e7.trans k13.p)
          exact .tup upd_same (.cons (.tup (k13 _ _ hpa7) (rds_n _)) (.cons (.int _) (.cons (.tup ((k2.trans k3) _ _ hu1') (rfs7.ex k13)) (.cons (.tup (k3 _ _ hu2') (rls.ex k13)) .nil))))
      · refine itF (fun z => by have := of_decide_eq_true z; omega) ?_
        have e6 := e5
        have hpa6 := hpa5
        have hf6 := hf5
        have hll6 := hll
        have rfs6 := rfs5
        have hp6 : Pen H5 pp (n + 75 + 0 * 3) := hp5.mono (by omega)
        obtain ⟨dt, hdt0⟩ : ∃ dt : Nat, dt = 0 := ⟨0, rfl⟩
        have hdt : dt < 3 := by omega
        have hcase : 1 < many ∨ dt = 0 := .inr hdt0
        refine ⟨_, rfl, by omega, by omega, ?_⟩
        refine for_it (walk_rn (n := dt) (by omega)) (fun i σ H' => (∃ x6 x7 x8 x9 x11 x12, σ = [some (.ref pp), some (.int 3), some (vN dear), some (.ref pa), some (vN many), some (.ref fd), x6, x7, x8, x9, some (.ref lg), x11, x12]) ∧ ExP pp H H' ∧ H' pa = some (.tup (ar.map vN)) ∧ Pen H' pp (n + 75 + i * 3) ∧ H' fd = some (.lst fs) ∧ RDs H' fs (ins.map dIns) ∧ ∃ (ls : List V) (cv : List Cv), H' lg = some (.lst ls) ∧ RDs H' ls (cv.map dCv) ∧ cv.length = i ∧ ∀ c ∈ cv, OkC many c ∧ c.price ≤ 5)
          ⟨⟨_, _, _, _, _, _, rfl⟩, e6, hpa6, hp6, hf6, rfs6, [], [], hll6, .nil, rfl, by simp⟩ (fun _ _ _ _ _ => trivial) (fun i x σ _ H7 hi hP hy => ?_) (fun σ H7 hP => ?_)
        · obtain ⟨rfl, rfl⟩ := hy
          obtain ⟨⟨x6, x7, x8, x9, x11, x12, rfl⟩, e7, hpa7, hp7, hf7, rfs7, ls, cv, hl7, rls, cl, cok⟩ := hP
          have h1m : 1 < many := hcase.resolve_right (by omega)
          have ll : ls.length = cv.length := by rw [rls.length, List.length_map]
          refine ⟨_, rfl, _, rfl, pp, many, _, rfl, by omega, by omega, hp7, by omega, fun a H8 ha hp8 ho8 => ?_⟩
          have t78 : Tu H7 H8 := (ExP.of ho8).tu hp7
          have hl8 : H8 lg = some (.lst ls) := by rw [ho8 lg nlg]; exact hl7
          refine ⟨_, rfl, .inl ⟨rfl, ls, .of hl8⟩, ?_⟩
          refine ⟨_, rfl, _, rfl, _, _, rfl, rfl, _, rfl, _, rfl, _, _, rfl, rfl, pp, many - 1, _, ?_, by omega, by omega, hp8, by omega, fun b H9 hb hp9 ho9 => ?_⟩
          · show [V.ref pp, V.int ((many : Int) - 1)] = _
            rw [show ((many : Int) - 1) = ((many - 1 : Nat) : Int) by omega]
          · refine ⟨_, _, rfl, rfl, _, rfl, _, _, rfl, rfl, (by omega : (0 : Int) < (many : Int)), ?_⟩
            refine ⟨_, rfl, _, rfl, _, _, rfl, rfl, pp, 1 + dear, _, by simp, by omega, by omega, hp9, by omega, fun pr H10 hpr hp10 ho10 => ?_⟩
            refine ⟨by simp [sizeLine], fun u2 hu2 => ?_⟩
            have el : (((a : Int) + 1 + (b : Int)) % (many : Int)) = (((a + 1 + b) % many : Nat) : Int) := by
              rw [Int.natCast_emod]
              congr 1
            have t810 : Tu H8 H10 := ((ExP.of ho9).trans (ExP.of ho10)).tu hp8
            have hl10 : H10 lg = some (.lst ls) := by rw [ho10 lg nlg, ho9 lg nlg]; exact hl8
            have hf10 : H10 fd = some (.lst fs) := by rw [ho10 fd nfd, ho9 fd nfd, ho8 fd nfd]; exact hf7
            have g4 := Ex.new (o := .tup [vN a, .int (((a : Int) + 1 + (b : Int)) % (many : Int)), vN pr]) hu2
            have hu2' : upd H10 u2 (.tup [vN a, .int (((a : Int) + 1 + (b : Int)) % (many : Int)), vN pr]) u2 = some (.tup [vN a, vN ((a + 1 + b) % many), vN pr]) := by rw [upd_same, el]
            have hl11 := g4 _ _ hl10
            have tu := Tu.lst (o := .lst (ls ++ [.ref u2])) hl11
            have t711 : Tu H7 (upd H10 u2 (.tup [vN a, .int (((a : Int) + 1 + (b : Int)) % (many : Int)), vN pr])) := (t78.trans t810).trans g4.tu
            have e11 := (((e7.trans (ExP.of ho8)).trans (ExP.of ho9)).trans (ExP.of ho10)).trans g4.p
            refine ⟨lg, ls, _, rfl, rfl, hl11, by simp only [sizeLine]; omega, ⟨_, _, _, _, _, _, rfl⟩, e11.mut lg0, tu _ _ (t711 _ _ hpa7), ((hp10.ex g4).put nlg).mono (by omega), by rw [upd_ne (Ne.symm nlf)]; exact g4 _ _ hf10, (rfs7.tu t711).tu tu, _, cv ++ [⟨a, (a + 1 + b) % many, (pr : Int)⟩], upd_same, ?_, by simp [cl], fun x hx => ?_⟩
            · rw [List.map_append]
              exact ((rls.tu t711).tu tu).app (.cons ((rd_cv (c := ⟨a, (a + 1 + b) % many, (pr : Int)⟩) hu2').tu tu) .nil)
            · rcases List.mem_append.mp hx with h | h
              · exact cok x h
              · rw [List.mem_singleton.mp h]
                refine ⟨⟨ha, Nat.mod_lt _ (by omega), ?_, by show (0 : Int) ≤ (pr : Int); omega, by show (pr : Int) ≤ 20; omega⟩, by show (pr : Int) ≤ 5; omega⟩
                show a ≠ (a + 1 + b) % many
                by_cases hw : a + 1 + b < many
                · rw [Nat.mod_eq_of_lt hw]
                  omega
                · rw [Nat.mod_eq_sub_mod (by omega), Nat.mod_eq_of_lt (by omega)]
                  omega
        · obtain ⟨⟨x6, x7, x8, x9, x11, x12, rfl⟩, e7, hpa7, hp7, hf7, rfs7, ls, cv, hl7, rls, cl, cok⟩ := hP
          refine ⟨_, rfl, _, rfl, _, rfl, fd, fs, rfl, .inl ⟨.of hf7, fun u1 hu1 => ?_⟩⟩
          have k1 := Ex.new (o := .tup fs) hu1
          have hu1' : upd H7 u1 (.tup fs) u1 = some (.tup fs) := upd_same
          generalize upd H7 u1 (.tup fs) = H8 at k1 hu1'
          refine ⟨_, rfl, lg, ls, rfl, .inl ⟨.of (k1 _ _ hl7), fun u2 hu2 => ?_⟩⟩
          have k2 := Ex.new (o := .tup ls) hu2
          have hu2' : upd H8 u2 (.tup ls) u2 = some (.tup ls) := upd_same
          generalize upd H8 u2 (.tup ls) = H9 at k2 hu2'
          refine ⟨by simp [sizeLine], fun u3 hu3 => ?_⟩
          have k3 := Ex.new (o := .tup [.ref pa, vN many, .ref u1, .ref u2]) hu3
          have k13 := (k1.trans k2).trans k3
          refine q ⟨ar, many, ins, cv⟩ _ _ ⟨aok, by show 1 ≤ many; omega, by show many ≤ 3; omega, hio, by show ins.length ≤ 16; omega, cok, by show cv.length ≤ 2; omega⟩ ?_ ((hp7.ex k13).mono (by omega)) (e7.trans k13.p)
          exact .tup upd_same (.cons (.tup (k13 _ _ hpa7) (rds_n _)) (.cons (.int _) (.cons (.tup ((k2.trans k3) _ _ hu1') (rfs7.ex k13)) (.cons (.tup (k3 _ _ hu2') (rls.ex k13)) .nil))))
end
end Cp
end

section
set_option Elab.async false
set_option linter.all false
set_option maxRecDepth 100000
set_option maxHeartbeats 4000000
namespace Cp
open PySem PySem.Spec PyProof.Rows L2
section
variable {P : Program} {w : World} {K : PySem.W.Frag} {mg : Str → Option Value} {base : Heap}
def sp_law_wider : Sp := fun vs H Q _ => ∃ (pp : Addr) (v : V) (m : Mach) (n : Nat), vs = [.ref pp, v] ∧ RD H v (dM m) ∧ DrM m ∧ Pen H pp n ∧ n ≤ 900000 ∧ ∀ (W : Mach) (v' : V) (H' : Hp), Wid m W → RD H' v' (dM W) → Pen H' pp (n + 16) → ExP pp H H' → Q v' H'
theorem ok_law_wider (T : Tx mg) (D : Def K mg "_law_wider" s_law_wider) (C_law_draw : Cal P w K mg base CX0 "_law_draw" 1 ["_law_pen_here", "_law_many"] sp_law_draw) : Cal P w K mg base CX0 "_law_wider" 2 ["_law_pen_here", "_law_machine_here"] sp_law_wider := by
  obtain ⟨f, fd, F, hm⟩ := D.ex
  refine ⟨f, fd, F.ok sc_law_wider (fun vs H Q E h => ?_) (fun cdv A outer s H vs Q E hr h => ?_), hm, F.kp, F.binds fun _ _ _ _ _ _ us hl => match us, hl with | [_, _], _ => rfl⟩
  · obtain ⟨pp, v, m, n, rfl, _⟩ := h
    rfl
  · obtain ⟨pp, v, m, n, rfl, hM, dm, hp, hn, q⟩ := h
    obtain ⟨p, pa, pi, pc, ai, ac, M⟩ := hM.mv
    cases M.e
    have aok := dm.ar
    have al1 := aok.h1
    have al4 := aok.h4
    have n1 := dm.n1
    have n3 := dm.n3
    refine ⟨_, (pss_cons (ps_asg (pv 1) (kg_tup K (n := 4) rfl (pgs_cons (pg_name (i := 2) sc_law_wider.nd rfl (by first | exact .inl rfl | exact .inr rfl)) (pgs_cons (pg_name (i := 3) sc_law_wider.nd rfl (by first | exact .inl rfl | exact .inr rfl)) (pgs_cons (pg_name (i := 4) sc_law_wider.nd rfl (by first | exact .inl rfl | exact .inr rfl)) (pgs_cons (pg_name (i := 5) sc_law_wider.nd rfl (by first | exact .inl rfl | exact .inr rfl)) pgs_nil))))))
  (pss_cons (ps_set (i := 6) sc_law_wider.nd rfl (by first | exact .inl rfl | exact .inr rfl) (pe_lst pa_nil))
  (pss_cons (ps_for PassesOwn.never rfl (pi_enumT (by rfl) T.enumerate (pa_cons (pv 2) pa_nil)) (kg_tup K (n := 2) rfl (pgs_cons (pg_name (i := 7) sc_law_wider.nd rfl (by first | exact .inl rfl | exact .inr rfl)) (pgs_cons (pg_name (i := 8) sc_law_wider.nd rfl (by first | exact .inl rfl | exact .inr rfl)) pgs_nil)))
  (pss_one (ps_if (pt_cmpR op_eq (pe_cal C_law_draw (by first | exact hr | exact hr.mono (by decide)) (by rfl) pass0 (pa_cons (pv 0) (pa_cons pe_int pa_nil))) pe_int (nomark _)) (pss_cons (ps_set (i := 9) sc_law_wider.nd rfl (by first | exact .inl rfl | exact .inr rfl) (pe_callTy (kc_tup K) (by rfl) T.tuple boot_tuple (pa_cons (pe_lc (own := [("_law_place", 10)]) rfl sc_law_wider.nd (pi_range1 (by rfl) T.range (pa_cons (pv 8) pa_nil)) (blkOk_by (own := [("_law_place", 10)]) (N := ["_law_pen_here", "_law_machine_here", "_law_arities_here", "_law_many", "_law_instructions", "_law_legs", "_law_more", "_law_operator", "_law_arity", "_law_arguments", "_law_place"]) (sc := defScope s_law_wider) (by decide +kernel)) (fun _ _ _ _ _ => (pg_name (i := 10) sc_law_wider.nd rfl (by first | exact .inl rfl | exact .inr rfl))) (fun _ _ _ _ _ => pts_nil) (fun _ _ _ _ _ => (pe_cal C_law_draw (by first | exact hr | exact hr.mono (by decide)) (by rfl) pass0 (pa_cons (pv 0) (pa_cons (pv 3) pa_nil))))) pa_nil)))
  (pss_one (ps_expr (pe_bm PySem.F.plainAttrs_list PySem.F.slot_list_append PySem.F.type_list_append mt_append (pv 6) (pa_cons (pe_tup (pa_cons (pv 3) (pa_cons (pv 7) (pa_cons (pv 9) (pa_cons (pe_cal C_law_draw (by first | exact hr | exact hr.mono (by decide)) (by rfl) pass0 (pa_cons (pv 0) (pa_cons pe_int pa_nil))) pa_nil))))) pa_nil))))) pss_nil)))
  (pss_one (ps_ret (pe_tup (pa_cons (pv 2) (pa_cons (pe_op op_add (pv 3) pe_int) (pa_cons (pe_op (ko_cat K) (pv 4) (pe_callTy (kc_tup K) (by rfl) T.tuple boot_tuple (pa_cons (pv 6) pa_nil))) (pa_cons (pv 5) pa_nil)))))))))), ?_⟩
    refine ⟨_, rfl, p, _, rfl, .of M.at0, rfl, _, _, rfl, _, _, rfl, _, _, rfl, _, _, rfl, rfl, ?_⟩
    refine ⟨by simp, fun fd hfd => ?_⟩
    have nfd : fd ≠ pp := ne_pen hp hfd
    have g1 := Ex.new (o := .lst []) hfd
    have hff : upd H fd (.lst []) fd = some (.lst []) := upd_same
    generalize upd H fd (.lst []) = H1 at g1 hff
    refine ⟨_, rfl, pa, _, rfl, .of (g1 _ _ M.at1), ?_⟩
    refine for_it walk_n (fun i σ H' => (∃ x7 x8 x9 x10, σ = [some (.ref pp), some (.ref p), some (.ref pa), some (vN m.n), some (.ref pi), some (.ref pc), some (.ref fd), x7, x8, x9, x10]) ∧ ExP pp H H' ∧ Pen H' pp (n + i * 4) ∧ ∃ (fs : List V) (ins : List Ins), H' fd = some (.lst fs) ∧ RDs H' fs (ins.map dIns) ∧ ins.length ≤ i ∧ ∀ x ∈ ins, x.form = m.n ∧ OkI m.ar (m.n + 1) x ∧ ∀ a ∈ x.args, a < m.n)
      ⟨⟨_, _, _, _, rfl⟩, g1.p, (hp.ex g1).mono (by omega), [], [], hff, .nil, by simp, by simp⟩ (fun i σ H' _ hP => .of (hP.2.1.tu hp _ _ M.at1)) (fun i x σ H4 H5 hi hP hy => ?_) (fun σ H4 hP => ?_)
    · obtain ⟨T1, y1, y2, rfl, nT, rfl, q1, q2⟩ := hy
      cases q1
      rw [List.length_map] at hi
      replace q2 : (m.ar.map vN)[i]? = some y2 := q2
      rw [List.getElem?_map, List.getElem?_eq_getElem hi] at q2
      cases q2
      obtain ⟨⟨x7, x8, x9, x10, rfl⟩, e4, hp4, fs, ins, hf4, rfs, hil, hio⟩ := hP
      have g2 := Ex.new (o := .tup [.int (i : Nat), vN m.ar[i]]) nT
      have hTT : upd H4 T1 (.tup [.int (i : Nat), vN m.ar[i]]) T1 = some (.tup [.int (i : Nat), vN m.ar[i]]) := upd_same
      generalize upd H4 T1 (.tup [.int (i : Nat), vN m.ar[i]]) = H5 at g2 hTT
      have hal : m.ar[i] ≤ 2 := aok.h2 _ (List.getElem_mem hi)
      have har : m.ar[i]? = some m.ar[i] := List.getElem?_eq_getElem hi
      generalize m.ar[i] = a0 at *
      have fl : fs.length = ins.length := by rw [rfs.length, List.length_map]
      refine ⟨T1, _, rfl, .of hTT, rfl, _, _, rfl, _, _, rfl, rfl, ?_⟩
      have e5 := e4.trans g2.p
      have hp5 := hp4.ex g2
      refine ⟨_, rfl, pp, 2, _, rfl, by decide, by decide, hp5, by omega, fun d0 H6 hd0 hp6 ho6 => ?_⟩
      have e6 := e5.trans (ExP.of ho6)
      have t46 : Tu H4 H6 := g2.tu.trans ((ExP.of ho6).tu hp5)
      have hf6 : H6 fd = some (.lst fs) := by rw [ho6 fd nfd]; exact g2 _ _ hf4
      refine ⟨rfl, _, rfl, ?_⟩
      by_cases h0 : d0 = 0
      · refine itT (decI (j := 0) h0) ?_
        refine ⟨_, rfl, _, rfl, by omega, by omega, fun D2 hD => ?_⟩
        have nD : D2 ≠ pp := ne_pen hp6 hD
        refine lc_it (walk_rn (n := a0)) (fun k H' => ExP pp H6 H' ∧ Pen H' pp (n + i * 4 + 1 + k) ∧ ∃ as : List Nat, H' D2 = some (.lst (as.map vN)) ∧ as.length = k ∧ ∀ a ∈ as, a < m.n) ⟨(ExP.refl pp H6).mut hD, hp6.ex (Ex.new hD), [], upd_same, rfl, by simp⟩ (fun _ _ _ _ => trivial) (fun k x _ H8 hk hP hy => ?_) (fun H8 hP => ?_)
        · obtain ⟨rfl, rfl⟩ := hy
          obtain ⟨e8, hp8, as, has, asl, asm⟩ := hP
          refine ⟨rfl, ?_⟩
          refine ⟨_, rfl, _, rfl, pp, m.n, _, rfl, by omega, by omega, hp8, by omega, fun a H9 ha hp9 ho9 => ?_⟩
          refine ⟨_, by rw [ho9 D2 nD]; exact has, by rw [List.length_map]; simp only [sizeLine]; omega, (e8.trans (ExP.of ho9)).mut hD, (hp9.put nD).mono (by omega), as ++ [a], ?_, by simp [asl], fun b hb => ?_⟩
          · rw [upd_same, List.map_append]
            rfl
          · rcases List.mem_append.mp hb with h | h
            · exact asm b h
            · rw [List.mem_singleton.mp h]
              exact ha
        · obtain ⟨e8, hp8, as, has, asl, asm⟩ := hP
          refine ⟨D2, _, rfl, .inl ⟨.of has, fun u1 hu1 => ?_⟩⟩
          have g3 := Ex.new (o := .tup (as.map vN)) hu1
          have hu1' : upd H8 u1 (.tup (as.map vN)) u1 = some (.tup (as.map vN)) := upd_same
          generalize upd H8 u1 (.tup (as.map vN)) = H9 at g3 hu1'
          have hp9 := hp8.ex g3
          have hf9 := g3 _ _ (e8 _ _ nfd hf6)
          refine ⟨_, rfl, .inl ⟨rfl, fs, .of hf9⟩, ?_⟩
          refine ⟨_, rfl, _, rfl, _, rfl, _, rfl, pp, 4, _, rfl, by decide, by decide, hp9, by omega, fun pr H11 hpr hp11 ho11 => ?_⟩
          have t911 : Tu H9 H11 := (ExP.of ho11).tu hp9
          refine ⟨by simp [sizeLine], fun u2 hu2 => ?_⟩
          have g4 := Ex.new (o := .tup [vN m.n, vN i, .ref u1, vN pr]) hu2
          have hu2' : upd H11 u2 (.tup [vN m.n, vN i, .ref u1, vN pr]) u2 = some (.tup [vN m.n, vN i, .ref u1, vN pr]) := upd_same
          generalize upd H11 u2 (.tup [vN m.n, vN i, .ref u1, vN pr]) = H12 at g4 hu2'
          have hf12 := g4 _ _ ((ExP.of ho11) _ _ nfd hf9)
          have tu := Tu.lst (o := .lst (fs ++ [.ref u2])) hf12
          have t412 : Tu H4 H12 := ((((t46.trans (e8.tu hp6)).trans g3.tu).trans t911)).trans g4.tu
          have e12 := (((e6.trans e8).trans g3.p).trans (ExP.of ho11)).trans g4.p
          refine ⟨fd, fs, _, rfl, rfl, hf12, by simp only [sizeLine]; omega, ⟨_, _, _, _, rfl⟩, e12.mut hfd, ((hp11.ex g4).put nfd).mono (by omega), _, ins ++ [⟨m.n, i, as, (pr : Int)⟩], upd_same, ?_, by rw [List.length_append]; simp; omega, fun x hx => ?_⟩
          · rw [List.map_append]
            exact ((rfs.tu t412).tu tu).app (.cons ((rd_ins (i := ⟨m.n, i, as, (pr : Int)⟩) hu2' (g4 _ _ (t911 _ _ hu1'))).tu tu) .nil)
          · rcases List.mem_append.mp hx with h | h
            · exact hio x h
            · rw [List.mem_singleton.mp h]
              exact ⟨rfl, ⟨Nat.lt_succ_self _, by rw [asl]; exact har, fun a ha => Nat.lt_succ_of_lt (asm a ha), by show (0 : Int) ≤ (pr : Int); omega, by show (pr : Int) ≤ 20; omega⟩, asm⟩
      · refine itF (decIN (j := 0) h0) ?_
        exact ⟨⟨_, _, _, _, rfl⟩, e6, hp6.mono (by omega), fs, ins, hf6, rfs.tu t46, by omega, hio⟩
    · obtain ⟨⟨x7, x8, x9, x10, rfl⟩, e4, hp4, fs, ins, hf4, rfs, hil, hio⟩ := hP
      rw [List.length_map] at hp4 hil
      have t04 : Tu H H4 := e4.tu hp
      have M4 := M.ex t04
      have la : ai.length = m.ins.length := by rw [M.ri.length, List.length_map]
      have fl : fs.length = ins.length := by rw [rfs.length, List.length_map]
      have iN := dm.iN
      refine ⟨_, rfl, _, rfl, _, _, rfl, rfl, _, rfl, _, rfl, fd, fs, rfl, .inl ⟨.of hf4, fun u1 hu1 => ?_⟩⟩
      have k1 := Ex.new (o := .tup fs) hu1
      have hu1' : upd H4 u1 (.tup fs) u1 = some (.tup fs) := upd_same
      generalize upd H4 u1 (.tup fs) = H5 at k1 hu1'
      refine catA_of (k1 _ _ M4.at2) hu1' (by simp only [sizeLine]; omega) fun c H6 k2 hc => ?_
      refine ⟨_, rfl, by simp [sizeLine], fun u3 hu3 => ?_⟩
      have k3 := Ex.new (o := .tup [.ref pa, .int ((m.n : Int) + 1), .ref c, .ref pc]) hu3
      have k13 := (k1.trans k2).trans k3
      refine q ⟨m.ar, m.n + 1, m.ins ++ ins, m.cv⟩ _ _ ⟨rfl, rfl, rfl, ins, rfl, by omega, fun i hi => hio i hi⟩ ?_ ((hp4.ex k13).mono (by omega)) (e4.trans k13.p)
      refine .tup upd_same (.cons (.tup (k13 _ _ M4.at1) (rds_n _)) (.cons (.int _) (.cons (.tup (k3 _ _ hc) ?_) (.cons (.tup (k13 _ _ M4.at3) (M4.rc.ex k13)) .nil))))
      rw [List.map_append]
      exact (M4.ri.ex k13).app (rfs.ex k13)
end
end Cp
end

section
set_option Elab.async false
set_option linter.all false
/-! the law's own ways and rows -/
namespace Cp
def big : Int := 10 ^ 40
def lw0 (n : Nat) : List Row := (List.range n).map fun one => (List.range n).map fun last => some (if one = last then 0 else big)
def lw1 (c : Cv) (one : Nat) (m : List Row) : List Row := mset m one c.last (oless (mget m one c.last) (oadd (mget m one c.first) (some c.price)))
def lw2 (n : Nat) (cv : List Cv) (m : List Row) : List Row := cv.foldl (fun m c => itn (fun one m => lw1 c one m) n m) m
def lwof (n : Nat) (cv : List Cv) : List Row := itn (fun _ m => lw2 n cv m) n (lw0 n)
def lr1 (lw : List Row) (x : Option Int) (f l : Nat) (fd : Row) : Row := fd.set l (oless (fd.getD l none) (oadd x (mget lw f l)))
def lrS (n : Nat) (lw : List Row) (op : Nat) (rows : List Row) (i : Ins) (fd : Row) : Row :=
  if i.op = op ∧ none ∉ partsF rows i.args then itn (fun l fd => lr1 lw (osum (some i.price :: partsF rows i.args)) i.form l fd) n fd else fd
def lrF (n : Nat) (lw : List Row) (ins : List Ins) (op : Nat) (rows : List Row) : Row := ins.foldl (fun fd i => lrS n lw op rows i fd) (List.replicate n (some big))
def thr : Option Int → Option Int
  | none => none
  | some x => if x ≥ big then none else some x
def lrow (m : Mach) (op : Nat) (rows : List Row) : Row := (lrF m.n (lwof m.n m.cv) m.ins op rows).map thr
/-- no None -/
def Som (r : Row) : Prop := ∀ x ∈ r, ∃ i, x = some i
def Soms (ws : List Row) : Prop := ∀ r ∈ ws, Som r
theorem Som.at {r : Row} (h : Som r) {j : Nat} (hj : j < r.length) : ∃ i, r.getD j none = some i := by
  rw [List.getD_eq_getElem?_getD, List.getElem?_eq_getElem hj]
  exact h _ (List.getElem_mem hj)
theorem Som.set {r : Row} (h : Som r) (j : Nat) {x : Option Int} (hx : ∃ i, x = some i) : Som (r.set j x) := fun y hy => by
  rcases List.mem_or_eq_of_mem_set hy with h1 | h1
  · exact h y h1
  · rw [h1]
    exact hx
theorem Soms.get {ws : List Row} (h : Soms ws) (i : Nat) : Som (ws.getD i []) := by
  rw [List.getD_eq_getElem?_getD]
  cases e : ws[i]? with
  | none => intro x hx; cases hx
  | some r => exact h r (List.mem_of_getElem? e)
theorem Soms.mset {ws : List Row} (h : Soms ws) (i j : Nat) {x : Option Int} (hx : ∃ k, x = some k) : Soms (mset ws i j x) := fun r hr => by
  unfold Cp.mset at hr
  rcases List.mem_or_eq_of_mem_set hr with h1 | h1
  · exact h r h1
  · rw [h1]
    exact (h.get i).set j hx
theorem lw0_soms (n : Nat) : Soms (lw0 n) := fun r hr => by
  unfold lw0 at hr
  obtain ⟨one, _, rfl⟩ := List.mem_map.mp hr
  intro x hx
  obtain ⟨l, _, rfl⟩ := List.mem_map.mp hx
  exact ⟨_, rfl⟩
theorem lw2_take {n : Nat} {cv : List Cv} {i : Nat} {c : Cv} (h : cv[i]? = some c) (m : List Row) : lw2 n (cv.take (i + 1)) m = itn (fun one m => lw1 c one m) n (lw2 n (cv.take i) m) := by
  rw [List.take_succ, h]
  unfold lw2
  rw [List.foldl_append]
  rfl
end Cp
end

section
set_option Elab.async false
set_option linter.all false
set_option maxRecDepth 100000
set_option maxHeartbeats 4000000
namespace Cp
open PySem PySem.Spec PyProof.Rows L2
theorem big_eq : (10 : Int) ^ (40 : Int).toNat = big := rfl
theorem dim_lw0 (n : Nat) : Dim n (lw0 n) := ⟨by unfold lw0; simp, fun r hr => by
  unfold lw0 at hr
  obtain ⟨one, _, rfl⟩ := List.mem_map.mp hr
  simp⟩
/-- a matrix of numbers -/
def DS (n : Nat) (ws : List Row) : Prop := Dim n ws ∧ Soms ws
theorem DS.at {n : Nat} {ws : List Row} (d : DS n ws) {i j : Nat} (hi : i < n) (hj : j < n) : ∃ k, mget ws i j = some k := by
  obtain ⟨r, e1, e2, e3⟩ := d.1.get hi
  unfold mget
  rw [e3]
  exact (d.2 r (List.mem_of_getElem? e1)).at (by omega)
theorem DS.lw1 {n : Nat} {ws : List Row} (d : DS n ws) {c : Cv} {one : Nat} (h1 : one < n) (h2 : c.first < n) (h3 : c.last < n) : DS n (lw1 c one ws) := by
  refine ⟨d.1.mset _ _ _, d.2.mset _ _ ?_⟩
  obtain ⟨a, ha⟩ := d.at h1 h3
  obtain ⟨b, hb⟩ := d.at h1 h2
  rw [ha, hb]
  exact ⟨_, rfl⟩
theorem ds_itn {n : Nat} {f : Nat → List Row → List Row} : ∀ (k : Nat) {m : List Row}, (∀ i m, i < k → DS n m → DS n (f i m)) → DS n m → DS n (itn f k m)
  | 0, _, _, d => d
  | k + 1, _, hf, d => hf k _ (Nat.lt_succ_self k) (ds_itn k (fun i m hi => hf i m (Nat.lt_succ_of_lt hi)) d)
theorem ds_fold {n : Nat} {α : Type} {f : List Row → α → List Row} : ∀ (l : List α) {m : List Row}, (∀ m, ∀ x ∈ l, DS n m → DS n (f m x)) → DS n m → DS n (l.foldl f m)
  | [], _, _, d => d
  | x :: l, _, hf, d => ds_fold l (fun m y hy => hf m y (List.mem_cons_of_mem _ hy)) (hf _ x (List.mem_cons_self ..) d)
theorem ds_lw2 {n : Nat} {cv : List Cv} (hc : ∀ c ∈ cv, c.first < n ∧ c.last < n) {m : List Row} (d : DS n m) : DS n (lw2 n cv m) :=
  ds_fold cv (fun m c hcm d => ds_itn n (fun one m h d => d.lw1 h (hc c hcm).1 (hc c hcm).2) d) d
theorem ds_lwof {n : Nat} {cv : List Cv} (hc : ∀ c ∈ cv, c.first < n ∧ c.last < n) : DS n (lwof n cv) := ds_itn n (fun _ m _ d => ds_lw2 hc d) ⟨dim_lw0 n, lw0_soms n⟩
section
variable {P : Program} {w : World} {K : PySem.W.Frag} {mg : Str → Option Value} {base : Heap}
def sp_law_ways : Sp := fun vs H Q _ => ∃ (v : V) (m : Mach), vs = [v] ∧ RD H v (dM m) ∧ m.Ok ∧ ∀ (a : Addr) (as : List Addr) (H' : Hp), Ex H H' → Mat H' a as (lwof m.n m.cv) → Dim m.n (lwof m.n m.cv) → Soms (lwof m.n m.cv) → Q (.ref a) H'
theorem ok_law_ways (T : Tx mg) (D : Def K mg "_law_ways" s_law_ways) : Cal P w K mg base CX0 "_law_ways" 1 ["_law_machine_here"] sp_law_ways := by
  obtain ⟨f, fd, F, hm⟩ := D.ex
  refine ⟨f, fd, F.ok sc_law_ways (fun vs H Q E h => ?_) (fun cdv A outer s H vs Q E hr h => ?_), hm, F.kp, F.binds fun _ _ _ _ _ _ us hl => match us, hl with | [_], _ => rfl⟩
  · obtain ⟨v, m, rfl, _⟩ := h
    rfl
  · obtain ⟨v, m, rfl, hM, ok, q⟩ := h
    obtain ⟨p, pa, pi, pc, ai, ac, M⟩ := hM.mv
    cases M.e
    have n4 := ok.n4
    refine ⟨_, (pss_cons (ps_setLc (i := 1) (own := [("_law_one", 6)]) rfl sc_law_ways.nd rfl rfl (sw_true rfl rfl rfl (by decide +kernel)) (pi_range1 (by rfl) T.range (pa_cons (pe_ix (kx_tup K) (pv 0) pe_int (fun _ _ => rfl)) pa_nil)) (blkOk_by (own := [("_law_one", 6)]) (N := ["_law_machine_here", "_law_found", "_law_lap", "_law_first", "_law_last", "_law_price", "_law_one"]) (sc := defScope s_law_ways) (by decide +kernel)) (fun _ _ _ _ _ => (pg_name (i := 6) sc_law_ways.nd rfl (by first | exact .inl rfl | exact .inr rfl))) (fun _ _ _ _ _ => pts_nil) (fun _ _ _ _ _ => (pe_lc (own := [("_law_last", 4)]) rfl sc_law_ways.nd (pi_range1 (by rfl) T.range (pa_cons (pe_ix (kx_tup K) (pv 0) pe_int (fun _ _ => rfl)) pa_nil)) (blkOk_by (own := [("_law_last", 4)]) (N := ["_law_machine_here", "_law_found", "_law_lap", "_law_first", "_law_last", "_law_price", "_law_one"]) (by rfl)) (fun _ _ _ _ _ => (pg_name (i := 4) sc_law_ways.nd rfl (by first | exact .inl rfl | exact .inr rfl))) (fun _ _ _ _ _ => pts_nil) (fun _ _ _ _ _ => (pe_ifExp (pt_cmpR op_eq (pv 6) (pv 4) (nomark _)) pe_int (pe_op op_pow pe_int pe_int))))))
  (pss_cons (ps_for PassesOwn.never rfl (pi_range1 (by rfl) T.range (pa_cons (pe_ix (kx_tup K) (pv 0) pe_int (fun _ _ => rfl)) pa_nil)) (pg_name (i := 2) sc_law_ways.nd rfl (by first | exact .inl rfl | exact .inr rfl))
  (pss_one (ps_for PassesOwn.never rfl (ki_tup K (pe_ix (kx_tup K) (pv 0) pe_int (fun _ _ => rfl))) (kg_tup K (n := 3) rfl (pgs_cons (pg_name (i := 3) sc_law_ways.nd rfl (by first | exact .inl rfl | exact .inr rfl)) (pgs_cons (pg_name (i := 4) sc_law_ways.nd rfl (by first | exact .inl rfl | exact .inr rfl)) (pgs_cons (pg_name (i := 5) sc_law_ways.nd rfl (by first | exact .inl rfl | exact .inr rfl)) pgs_nil))))
  (pss_one (ps_for PassesOwn.never rfl (pi_range1 (by rfl) T.range (pa_cons (pe_ix (kx_tup K) (pv 0) pe_int (fun _ _ => rfl)) pa_nil)) (pg_name (i := 6) sc_law_ways.nd rfl (by first | exact .inl rfl | exact .inr rfl))
  (pss_one (ps_asg (pe_callB (call_min2 rfl) (by rfl) T.min boot_min (pa_cons (pe_ix (kx_list K) (pe_ix (kx_list K) (pv 1) (pv 6) (fun _ _ => rfl)) (pv 4) (fun _ _ => rfl)) (pa_cons (pe_op op_add (pe_ix (kx_list K) (pe_ix (kx_list K) (pv 1) (pv 6) (fun _ _ => rfl)) (pv 3) (fun _ _ => rfl)) (pv 5)) pa_nil))) (pg_sub (pe_ix (kx_list K) (pv 1) (pv 6) (fun _ _ => rfl)) (pv 4) set_list))))))))
  (pss_one (ps_ret (pv 1))))), ?_⟩
    have hn' : (m.n : Int) < 2 ^ 62 := by omega
    have hc : ∀ c ∈ m.cv, c.first < m.n ∧ c.last < m.n := fun c h => ⟨(ok.cv c h).first, (ok.cv c h).last⟩
    refine ⟨_, rfl, p, _, 1, _, rfl, rfl, SqT.of M.at0, rfl, _, rfl, by omega, hn', fun D hD => ?_⟩
    refine lc_it walk_rn (fun i H' => ∃ as : List Addr, Mat H' D as ((List.range i).map fun one => (List.range m.n).map fun last => some (if one = last then 0 else big)) ∧ NewM H H' D as) ⟨[], ⟨by rw [upd_same]; rfl, rfl, List.nodup_nil, by simp, by simp⟩, Ex.new hD, hD, by simp⟩ (fun _ _ _ _ => trivial) (fun i x _ H1 hi hP hy => ?_) (fun H1 hP => ?_)
    · obtain ⟨rfl, rfl⟩ := hy
      obtain ⟨as, mt, ex, nD, na⟩ := hP
      have M1 := M.ex ex.tu
      refine ⟨rfl, ?_⟩
      refine ⟨_, rfl, p, _, 1, _, rfl, rfl, SqT.of M1.at0, rfl, _, rfl, by omega, hn', fun b hb => ?_⟩
      refine lc_it walk_rn (fun j H' => Ex H1 H' ∧ H' b = some (.lst (((List.range j).map fun last => some (if i = last then 0 else big)).map vO))) ⟨Ex.new hb, upd_same⟩ (fun _ _ _ _ => trivial) (fun j x _ H2 hj hP hy => ?_) (fun H2 hP => ?_)
      · obtain ⟨rfl, rfl⟩ := hy
        obtain ⟨ex2, hb2⟩ := hP
        have hlen : (((List.range j).map fun last => some (if i = last then 0 else big)).map vO).length < sizeLine := by simp [sizeLine]; omega
        refine ⟨rfl, ?_⟩
        refine ⟨_, rfl, _, rfl, rfl, _, rfl, ?_⟩
        by_cases h : i = j
        · refine itT (decI h) ⟨_, hb2, hlen, ex2.mut hb, ?_⟩
          rw [upd_same, List.range_succ, List.map_append, List.map_append]
          simp [h, vO]
        · refine itF (decIN h) ⟨10, 40, rfl, rfl, ⟨by decide, by decide, by decide⟩, _, hb2, hlen, ex2.mut hb, ?_⟩
          rw [upd_same, List.range_succ, List.map_append, List.map_append]
          simp only [List.map_cons, List.map_nil, if_neg h]
          rfl
      · obtain ⟨ex2, hb2⟩ := hP
        have hDb : D ≠ b := ne_of_none mt.at' hb
        refine ⟨_, ex2 _ _ mt.at', by rw [List.length_map, mt.len]; simp [sizeLine]; omega, as ++ [b], ?_, (ex.trans ex2).mut nD, nD, ?_⟩
        · rw [List.range_succ, List.map_append]
          refine mt.snoc (fun c o hc ho => ?_) hb ?_ upd_same
          · rw [upd_ne hc]
            exact ex2 _ _ ho
          · rw [upd_ne hDb.symm]
            exact hb2
        · intro c hc
          rcases List.mem_append.mp hc with hc | hc
          · exact na c hc
          · rw [List.mem_singleton.mp hc]
            exact ex.free hb
    · obtain ⟨as, mt0, nw0⟩ := hP
      have M1 := M.ex nw0.1.tu
      have d0 : DS m.n (lw0 m.n) := ⟨dim_lw0 _, lw0_soms _⟩
      replace mt0 : Mat H1 D as (lw0 m.n) := mt0
      refine ⟨_, rfl, p, _, 1, _, rfl, rfl, SqT.of M1.at0, rfl, _, rfl, by omega, hn', ?_⟩
      refine for_it walk_rn (fun i σ H' => (∃ x2 x3 x4 x5 x6, σ = [some (.ref p), some (.ref D), x2, x3, x4, x5, x6]) ∧ Mat H' D as (itn (fun _ m1 => lw2 m.n m.cv m1) i (lw0 m.n)) ∧ NewM H H' D as) ⟨⟨_, _, _, _, _, rfl⟩, mt0, nw0⟩ (fun _ _ _ _ _ => trivial) (fun i x σ _ H2 hi hP hy => ?_) (fun σ H2 hP => ?_)
      · obtain ⟨rfl, rfl⟩ := hy
        obtain ⟨⟨x2, x3, x4, x5, x6, rfl⟩, mt1, nw1⟩ := hP
        have M2 := M.ex nw1.1.tu
        have d1 : DS m.n (itn (fun _ m1 => lw2 m.n m.cv m1) i (lw0 m.n)) := ds_itn i (fun _ m _ d => ds_lw2 hc d) d0
        generalize hwa : itn (fun _ m1 => lw2 m.n m.cv m1) i (lw0 m.n) = wa at mt1 d1
        refine ⟨_, rfl, p, _, 3, _, rfl, rfl, SqT.of M2.at0, rfl, pc, rfl, ⟨ac, SqT.of M2.at3⟩, ?_⟩
        refine for_it (walk_tup (xs := ac)) (fun k σ H' => (∃ x2 x3 x4 x5 x6, σ = [some (.ref p), some (.ref D), x2, x3, x4, x5, x6]) ∧ Mat H' D as (lw2 m.n (m.cv.take k) wa) ∧ NewM H H' D as) ⟨⟨_, _, _, _, _, rfl⟩, mt1, nw1⟩ (fun k σ H1 _ hP => SqT.of (hP.2.2.1 _ _ M.at3)) (fun k x σ _ H3 hk hP hy => ?_) (fun σ H3 hP => ?_)
        · obtain ⟨rfl, hx⟩ := hy
          obtain ⟨⟨x2, x3, x4, x5, x6, rfl⟩, mt2, nw2⟩ := hP
          have M3 := M.ex nw2.1.tu
          obtain ⟨c, hcv, hrd⟩ := rds_at M3.rc hx
          obtain ⟨tc, rfl, htc⟩ := hrd.cv
          obtain ⟨h1, h2⟩ := hc c (List.mem_of_getElem? hcv)
          have d2 : DS m.n (lw2 m.n (m.cv.take k) wa) := ds_lw2 (fun c h => hc c (List.mem_of_mem_take h)) d1
          have et := lw2_take (n := m.n) hcv wa
          generalize hwb : lw2 m.n (m.cv.take k) wa = wb at mt2 d2 et
          refine ⟨tc, _, rfl, SqT.of htc, rfl, _, _, rfl, _, _, rfl, _, _, rfl, rfl, ?_⟩
          refine ⟨_, rfl, p, _, 1, _, rfl, rfl, SqT.of M3.at0, rfl, _, rfl, by omega, hn', ?_⟩
          refine for_it walk_rn (fun one σ H' => (∃ x2 x6, σ = [some (.ref p), some (.ref D), x2, some (vN c.first), some (vN c.last), some (.int c.price), x6]) ∧ Mat H' D as (itn (fun one m1 => lw1 c one m1) one wb) ∧ NewM H H' D as) ⟨⟨_, _, rfl⟩, mt2, nw2⟩ (fun _ _ _ _ _ => trivial) (fun one x σ _ H4 ho hP hy => ?_) (fun σ H4 hP => ?_)
          · obtain ⟨rfl, rfl⟩ := hy
            obtain ⟨⟨x2, x6, rfl⟩, mt3, nw3⟩ := hP
            have d3 : DS m.n (itn (fun one m1 => lw1 c one m1) one wb) := ds_itn one (fun o m1 h d => d.lw1 (by omega) h1 h2) d2
            rw [show itn (fun one m1 => lw1 c one m1) (one + 1) wb = lw1 c one (itn (fun one m1 => lw1 c one m1) one wb) from rfl]
            generalize itn (fun one m1 => lw1 c one m1) one wb = wl at mt3 d3 ⊢
            obtain ⟨b, r, e1, e2, e3, e4, e5, e6⟩ := mt3.get d3.1 ho
            obtain ⟨a1, ha1⟩ := d3.at ho h2
            obtain ⟨a2, ha2⟩ := d3.at ho h1
            have k1 : mget wl one c.last = r.getD c.last none := by unfold mget; rw [e4]
            have k2 : mget wl one c.first = r.getD c.first none := by unfold mget; rw [e4]
            have g1 : (r.map vO)[c.last]? = some (.int a1) := by rw [vO_at (by omega), ← k1, ha1]; rfl
            have g2 : (r.map vO)[c.first]? = some (.int a2) := by rw [vO_at (by omega), ← k2, ha2]; rfl
            refine ⟨_, rfl, _, rfl, D, _, _, _, rfl, rfl, .of mt3.at', e6, _, rfl, b, _, _, _, rfl, rfl, .of e5, atI_nat g1, ?_⟩
            refine ⟨_, rfl, _, rfl, D, _, _, _, rfl, rfl, .of mt3.at', e6, _, rfl, b, _, _, _, rfl, rfl, .of e5, atI_nat g2, _, rfl, _, _, rfl, rfl, _, _, rfl, ?_⟩
            refine ⟨_, rfl, _, rfl, D, _, _, _, rfl, rfl, .of mt3.at', e6, _, rfl, b, _, _, c.last, rfl, rfl, e5, ?_, ⟨_, _, rfl⟩, ?_, nw3.put e1⟩
            · rw [List.length_map, e3]
              exact ixN_nat h2
            · unfold lw1
              rw [ha1, ha2]
              have em : (if a2 + c.price < a1 then a2 + c.price else a1) = min a1 (a2 + c.price) := by
                by_cases h : a2 + c.price < a1
                · rw [if_pos h]; omega
                · rw [if_neg h]; omega
              rw [em]
              exact mt3.put e1 e2 c.last (some (min a1 (a2 + c.price)))
          · obtain ⟨⟨x2, x6, rfl⟩, mt3, nw3⟩ := hP
            refine ⟨⟨_, _, _, _, _, rfl⟩, ?_, nw3⟩
            show Mat _ _ _ (lw2 m.n (m.cv.take (k + 1)) wa)
            rw [et]
            exact mt3
        · obtain ⟨⟨x2, x3, x4, x5, x6, rfl⟩, mt2, nw2⟩ := hP
          rw [List.take_of_length_le (by have := M.rc.length; rw [List.length_map] at this; omega)] at mt2
          refine ⟨⟨_, _, _, _, _, rfl⟩, ?_, nw2⟩
          show Mat _ _ _ (lw2 m.n m.cv (itn (fun _ m1 => lw2 m.n m.cv m1) i (lw0 m.n)))
          rw [hwa]
          exact mt2
      · obtain ⟨⟨x2, x3, x4, x5, x6, rfl⟩, mt1, nw1⟩ := hP
        have dd := ds_lwof hc
        exact ⟨_, rfl, q D as H2 nw1.1 mt1 dd.1 dd.2⟩
end
end Cp
end

section
set_option Elab.async false
set_option linter.all false
set_option maxRecDepth 100000
set_option maxHeartbeats 4000000
namespace Cp
open PySem PySem.Spec PyProof.Rows L2
theorem lrF_take {n : Nat} {lw : List Row} {ins : List Ins} {k : Nat} {i : Ins} {op : Nat} {rows : List Row} (h : ins[k]? = some i) : lrF n lw (ins.take (k + 1)) op rows = lrS n lw op rows i (lrF n lw (ins.take k) op rows) := by
  rw [List.take_succ, h]
  unfold lrF
  rw [List.foldl_append]
  rfl
/-- a row of n numbers -/
def RS (n : Nat) (r : Row) : Prop := r.length = n ∧ Som r
theorem RS.at {n : Nat} {r : Row} (h : RS n r) {j : Nat} (hj : j < n) : ∃ i, r.getD j none = some i := h.2.at (by rw [h.1]; exact hj)
theorem rs_lr1 {n : Nat} {lw : List Row} (d : DS n lw) {x : Int} {f l : Nat} (hf : f < n) (hl : l < n) {fd : Row} (h : RS n fd) : RS n (lr1 lw (some x) f l fd) := by
  unfold lr1
  obtain ⟨a, ha⟩ := h.at hl
  obtain ⟨b, hb⟩ := d.at hf hl
  rw [ha, hb]
  exact ⟨by rw [List.length_set]; exact h.1, h.2.set _ ⟨_, rfl⟩⟩
theorem rs_itn {n : Nat} {f : Nat → Row → Row} : ∀ (k : Nat) {m : Row}, (∀ i m, i < k → RS n m → RS n (f i m)) → RS n m → RS n (itn f k m)
  | 0, _, _, d => d
  | k + 1, _, hf, d => hf k _ (Nat.lt_succ_self k) (rs_itn k (fun i m hi => hf i m (Nat.lt_succ_of_lt hi)) d)
theorem rs_lrS {n : Nat} {lw : List Row} (d : DS n lw) {op : Nat} {rows : List Row} {i : Ins} (hf : i.form < n) {fd : Row} (h : RS n fd) : RS n (lrS n lw op rows i fd) := by
  unfold lrS
  split
  · next c =>
    obtain ⟨ns, e1, e2⟩ := osum_some c.2
    have e3 : osum (some i.price :: partsF rows i.args) = some (i.price + ns.sum) := by rw [osum, e2]; rfl
    rw [e3]
    exact rs_itn n (fun l m hl hm => rs_lr1 d hf hl hm) h
  · exact h
theorem rs_lrF {n : Nat} {lw : List Row} (d : DS n lw) {op : Nat} {rows : List Row} : ∀ {ins : List Ins}, (∀ i ∈ ins, i.form < n) → RS n (lrF n lw ins op rows) := by
  intro ins hf
  unfold lrF
  suffices ∀ (ins : List Ins) (fd : Row), (∀ i ∈ ins, i.form < n) → RS n fd → RS n (ins.foldl (fun fd i => lrS n lw op rows i fd) fd) from this ins _ hf ⟨by simp, fun x hx => ⟨big, List.eq_of_mem_replicate hx⟩⟩
  intro ins
  induction ins with
  | nil => exact fun fd _ h => h
  | cons i r ih => exact fun fd hf h => ih _ (fun j hj => hf j (List.mem_cons_of_mem _ hj)) (rs_lrS d (hf i (List.mem_cons_self ..)) h)
section
variable {P : Program} {w : World} {K : PySem.W.Frag} {mg : Str → Option Value} {base : Heap}
def sp_law_row (K : PySem.W.Frag) : Sp := fun vs H Q _ => ∃ (v : V) (a : Addr) (as : List Addr) (m : Mach) (op : Nat) (rl : Addr) (xs : List V) (rows : List Row), vs = [v, .ref a, vN op, .ref rl] ∧ RD H v (dM m) ∧ m.Ok ∧ Mat H a as (lwof m.n m.cv) ∧ SqL K H rl xs ∧ RDs H xs (rows.map dS) ∧ (∀ r ∈ rows, r.length = m.n) ∧
  ∀ (v' : V) (H' : Hp), Ex H H' → RD H' v' (dS (lrow m op rows)) → Q v' H'
theorem ok_law_row (T : Tx mg) (D : Def K mg "_law_row" s_law_row) : Cal P w K mg base CX0 "_law_row" 1 ["_law_machine_here", "_law_ways_here", "_law_operator", "_law_rows"] (sp_law_row K) := by
  obtain ⟨f, fd, F, hm⟩ := D.ex
  refine ⟨f, fd, F.ok sc_law_row (fun vs H Q E h => ?_) (fun cdv A outer s H vs Q E hr h => ?_), hm, F.kp, F.binds fun _ _ _ _ _ _ us hl => match us, hl with | [_, _, _, _], _ => rfl⟩
  · obtain ⟨v, a, as, m, op, rl, xs, rows, rfl, _⟩ := h
    rfl
  · obtain ⟨v, a, as, m, op, rl, xs, rows, rfl, hM, ok, hW, hS, hR, hrl, q⟩ := h
    obtain ⟨p, pa, pi, pc, ai, ac, M⟩ := hM.mv
    cases M.e
    have n4 := ok.n4
    have ds : DS m.n (lwof m.n m.cv) := ds_lwof fun c h => ⟨(ok.cv c h).first, (ok.cv c h).last⟩
    have hfo : ∀ i ∈ m.ins, i.form < m.n := fun i hi => (ok.ins i hi).form
    refine ⟨_, (pss_cons (ps_set (i := 4) sc_law_row.nd rfl (by first | exact .inl rfl | exact .inr rfl) (pe_op op_rep (pe_lst (pa_cons (pe_op op_pow pe_int pe_int) pa_nil)) (pe_ix (kx_tup K) (pv 0) pe_int (fun _ _ => rfl))))
  (pss_cons (ps_for PassesOwn.never rfl (ki_tup K (pe_ix (kx_tup K) (pv 0) pe_int (fun _ _ => rfl))) (kg_tup K (n := 4) rfl (pgs_cons (pg_name (i := 5) sc_law_row.nd rfl (by first | exact .inl rfl | exact .inr rfl)) (pgs_cons (pg_name (i := 6) sc_law_row.nd rfl (by first | exact .inl rfl | exact .inr rfl)) (pgs_cons (pg_name (i := 7) sc_law_row.nd rfl (by first | exact .inl rfl | exact .inr rfl)) (pgs_cons (pg_name (i := 8) sc_law_row.nd rfl (by first | exact .inl rfl | exact .inr rfl)) pgs_nil)))))
  (pss_one (ps_if (pt_cmpR op_eq (pv 6) (pv 2) (nomark _)) (pss_cons (ps_setLc (i := 9) (own := [("_law_its_row", 11), ("_law_at", 12)]) rfl sc_law_row.nd rfl rfl (sw_true rfl rfl rfl (by decide +kernel)) (pi_zipLT (by rfl) T.zip (pa_cons (pv 3) (pa_cons (pv 7) pa_nil))) (blkOk_by (own := [("_law_its_row", 11), ("_law_at", 12)]) (N := ["_law_machine_here", "_law_ways_here", "_law_operator", "_law_rows", "_law_found", "_law_form", "_law_its", "_law_arguments", "_law_price", "_law_taken", "_law_last", "_law_its_row", "_law_at"]) (sc := defScope s_law_row) (by decide +kernel)) (fun _ _ _ _ _ => (kg_tup K (n := 2) rfl (pgs_cons (pg_name (i := 11) sc_law_row.nd rfl (by first | exact .inl rfl | exact .inr rfl)) (pgs_cons (pg_name (i := 12) sc_law_row.nd rfl (by first | exact .inl rfl | exact .inr rfl)) pgs_nil)))) (fun _ _ _ _ _ => pts_nil) (fun _ _ _ _ _ => (pe_ix (kx_tup K) (pv 11) (pv 12) (fun _ _ => rfl))))
  (pss_one (ps_for PassesOwn.never rfl (pi_range1 (by rfl) T.range (pa_cons (pe_ifExp (pt_cmpR op_notIn_seq pe_non (pv 9) (by rfl)) (pe_ix (kx_tup K) (pv 0) pe_int (fun _ _ => rfl)) pe_int) pa_nil)) (pg_name (i := 10) sc_law_row.nd rfl (by first | exact .inl rfl | exact .inr rfl))
  (pss_one (ps_asg (pe_callB (call_min2 rfl) (by rfl) T.min boot_min (pa_cons (pe_ix (kx_list K) (pv 4) (pv 10) (fun _ _ => rfl)) (pa_cons (pe_op op_add (pe_op op_add (pv 8) (pe_callB (cr_sum rfl) (by rfl) T.sum boot_sum (pa_cons (pv 9) pa_nil))) (pe_ix (kx_list K) (pe_ix (kx_list K) (pv 1) (pv 5) (fun _ _ => rfl)) (pv 10) (fun _ _ => rfl))) pa_nil))) (pg_sub (pv 4) (pv 10) set_list)))))) pss_nil)))
  (pss_one (ps_ret (pe_callTy (kc_tup K) (by rfl) T.tuple boot_tuple (pa_cons (pe_lc (own := [("_law_price", 8)]) rfl sc_law_row.nd (ki_list K (pv 4)) (blkOk_by (own := [("_law_price", 8)]) (N := ["_law_machine_here", "_law_ways_here", "_law_operator", "_law_rows", "_law_found", "_law_form", "_law_its", "_law_arguments", "_law_price", "_law_taken", "_law_last", "_law_its_row", "_law_at"]) (sc := defScope s_law_row) (by decide +kernel)) (fun _ _ _ _ _ => (pg_name (i := 8) sc_law_row.nd rfl (by first | exact .inl rfl | exact .inr rfl))) (fun _ _ _ _ _ => pts_nil) (fun _ _ _ _ _ => (pe_ifExp (pt_cmpR op_ge (pv 8) (pe_op op_pow pe_int pe_int) (nomark _)) pe_non (pv 8)))) pa_nil)))))), ?_⟩
    refine ⟨10, 40, rfl, rfl, ⟨by decide, by decide, by decide⟩, by simp [sizeLine], fun z hz => ⟨_, rfl, p, _, 1, _, rfl, rfl, SqT.of (by rw [upd_ne (ne_of_none M.at0 hz)]; exact M.at0), rfl, z, _, _, rfl, rfl, upd_same, by omega, by omega, by simp [sizeLine]; omega, fun l hl => ?_⟩⟩
    have hl0 : H l = none := (Ex.new hz).free hl
    have ex0 := Ex.newT (o := .lst (List.replicate ((m.n : Int)).toNat [V.int ((10 : Int) ^ (40 : Int).toNat)]).flatten) (Ex.new (o := .lst [V.int ((10 : Int) ^ (40 : Int).toNat)]) hz) hl
    have hll : upd (upd H z (.lst [V.int ((10 : Int) ^ (40 : Int).toNat)])) l (.lst (List.replicate ((m.n : Int)).toNat [V.int ((10 : Int) ^ (40 : Int).toNat)]).flatten) l = some (.lst ((lrF m.n (lwof m.n m.cv) (m.ins.take 0) op rows).map vO)) := by
      rw [upd_same]
      simp [lrF, List.map_replicate, vO, big]
    refine ⟨_, rfl, p, _, 2, _, rfl, rfl, SqT.of (ex0 _ _ M.at0), rfl, pi, rfl, ⟨ai, SqT.of (ex0 _ _ M.at2)⟩, ?_⟩
    refine for_it (walk_tup (xs := ai)) (fun i σ H' => (∃ x5 x6 x7 x8 x9 x10 x11 x12, σ = [some (.ref p), some (.ref a), some (vN op), some (.ref rl), some (.ref l), x5, x6, x7, x8, x9, x10, x11, x12]) ∧ Ex H H' ∧ H' l = some (.lst ((lrF m.n (lwof m.n m.cv) (m.ins.take i) op rows).map vO))) ⟨⟨_, _, _, _, _, _, _, _, rfl⟩, ex0, hll⟩ (fun i σ H1 _ hP => SqT.of (hP.2.1 _ _ M.at2)) (fun i x σ _ H1 hi hP hy => ?_) (fun σ H1 hP => ?_)
    · obtain ⟨rfl, hx⟩ := hy
      obtain ⟨⟨x5, x6, x7, x8, x9, x10, x11, x12, rfl⟩, ex, hl1⟩ := hP
      obtain ⟨i1, hi1, hrd⟩ := rds_at (M.ri.ex ex) hx
      obtain ⟨t1, t2, rfl, ht1, ht2⟩ := hrd.ins
      have oki := ok.ins i1 (List.mem_of_getElem? hi1)
      have rs := rs_lrF ds (op := op) (rows := rows) (ins := m.ins.take i) fun i hi => hfo i (List.mem_of_mem_take hi)
      have et := lrF_take (n := m.n) (lw := lwof m.n m.cv) (op := op) (rows := rows) hi1
      generalize hfd : lrF m.n (lwof m.n m.cv) (m.ins.take i) op rows = fd0 at hl1 rs et
      refine ⟨t1, _, rfl, SqT.of ht1, rfl, _, _, rfl, _, _, rfl, _, _, rfl, _, _, rfl, rfl, ?_⟩
      refine ⟨_, rfl, _, rfl, rfl, _, rfl, ?_⟩
      by_cases h : i1.op = op
      · refine itT (decI h) ?_
        have hR1 := hR.ex ex
        have hal : i1.args.length ≤ 2 := ok.a2 _ (List.mem_of_getElem? oki.op)
        have hpl : (partsF rows i1.args).length ≤ 2 := by
          unfold partsF
          rw [List.length_zipWith]
          omega
        have hS1 : SqL K H1 rl xs := SqL.ex hS ex
        refine ⟨_, rfl, _, rfl, rl, t2, _, _, rfl, hS1, ht2, fun D2 hD2 => ?_⟩
        have pl : (partsF rows i1.args).length = min xs.length (i1.args.map fun i => V.int (i : Nat)).length := by
          unfold partsF
          rw [List.length_zipWith, List.length_map, hR.length, List.length_map]
        refine lc_it walk_n (fun j H' => Ex H1 H' ∧ H' D2 = some (.lst (((partsF rows i1.args).take j).map vO))) ⟨Ex.new hD2, by rw [upd_same]; rfl⟩ (fun j H' _ hP => ⟨SqL.ex hS1 hP.1, hP.1 _ _ ht2⟩) (fun j x H2 H3 hj hP hy => ?_) (fun H2 hP => ?_)
        · obtain ⟨T2, x1, x2, rfl, nT, rfl, e1, e2⟩ := hy
          obtain ⟨ex2, hD3⟩ := hP
          have ex3 : Ex H1 (upd H2 T2 (.tup [x1, x2])) := ex2.newT nT
          obtain ⟨r, hr1, hrr⟩ := rds_at hR1 e1
          obtain ⟨ra, rfl, hra⟩ := hrr.row
          have e3 : (i1.args.map fun i => V.int (i : Nat))[j]? = some x2 := e2
          rw [List.getElem?_map] at e3
          cases ha : i1.args[j]? with
          | none => rw [ha] at e3; cases e3
          | some a =>
            rw [ha] at e3
            cases e3
            have hlen : a < r.length := by rw [hrl r (List.mem_of_getElem? hr1)]; exact oki.args a (List.mem_of_getElem? ha)
            have pj : (partsF rows i1.args)[j]? = some (r.getD a none) := by
              unfold partsF
              rw [List.getElem?_zipWith, hr1, ha]
            refine ⟨T2, _, rfl, SqT.of upd_same, rfl, _, _, rfl, _, _, rfl, rfl, rfl, ?_⟩
            refine ⟨_, rfl, _, rfl, ra, _, _, _, rfl, rfl, SqT.of (ex3 _ _ hra), atI_nat (vO_at hlen), _, by rw [upd_ne (ne_of_none hD3 nT)]; exact hD3, by rw [List.length_map, List.length_take]; simp [sizeLine]; omega, ?_⟩
            refine ⟨ex3.mut hD2, ?_⟩
            rw [upd_same, List.take_succ, pj, List.map_append]
            rfl
        · obtain ⟨ex2, hD3⟩ := hP
          rw [List.take_of_length_le (by omega)] at hD3
          have exA : Ex H H2 := ex.trans ex2
          have hl2 := ex2 _ _ hl1
          have M2 := M.ex exA.tu
          have hn' : (m.n : Int) < 2 ^ 62 := by omega
          refine ⟨_, rfl, D2, _, rfl, .inl (.of hD3), rfl, flats_vO _, _, rfl, ?_⟩
          show if (!inV .non ((partsF rows i1.args).map vO)) = true then _ else _
          rw [inV_non]
          by_cases hnn : none ∈ partsF rows i1.args
          · refine itF (by simp [hnn]) ?_
            refine ⟨_, rfl, by omega, by omega, ?_⟩
            refine for_it (walk_rn (n := 0) rfl) (fun j σ H' => (∃ x5 x6 x7 x8 x9 x10 x11 x12, σ = [some (.ref p), some (.ref a), some (vN op), some (.ref rl), some (.ref l), x5, x6, x7, x8, x9, x10, x11, x12]) ∧ H' = H2) ⟨⟨_, _, _, _, _, _, _, _, rfl⟩, rfl⟩ (fun _ _ _ _ _ => trivial) (fun j x σ _ H3 hj hP hy => by omega) (fun σ H3 hP => ?_)
            obtain ⟨hσ, rfl⟩ := hP
            refine ⟨hσ, exA, ?_⟩
            rw [et, lrS, if_neg (fun z => z.2 hnn)]
            exact hl2
          · refine itT (by simp [hnn]) ?_
            obtain ⟨ns, en1, en2⟩ := osum_some hnn
            have hD4 : H2 D2 = some (.lst (ns.map V.int)) := by rw [hD3, en1, map_vO_some]
            have ex3' : osum (some i1.price :: partsF rows i1.args) = some (i1.price + ns.sum) := by rw [osum, en2]; rfl
            refine ⟨_, rfl, p, _, _, _, rfl, rfl, .of M2.at0, rfl, _, rfl, by omega, hn', ?_⟩
            have nDl : D2 ≠ l := fun e => by rw [e, hl1] at hD2; cases hD2
            refine for_it (walk_rn (n := m.n)) (fun j σ H' => (∃ x10 x11 x12, σ = [some (.ref p), some (.ref a), some (vN op), some (.ref rl), some (.ref l), some (vN i1.form), some (vN i1.op), some (.ref t2), some (.int i1.price), some (.ref D2), x10, x11, x12]) ∧ Ex H H' ∧ H' D2 = some (.lst (ns.map V.int)) ∧ H' l = some (.lst ((itn (fun l fd => lr1 (lwof m.n m.cv) (some (i1.price + ns.sum)) i1.form l fd) j fd0).map vO))) ⟨⟨_, _, _, rfl⟩, exA, hD4, hl2⟩ (fun _ _ _ _ _ => trivial) (fun j x σ _ H3 hj hP hy => ?_) (fun σ H3 hP => ?_)
            · obtain ⟨rfl, rfl⟩ := hy
              obtain ⟨⟨x10, x11, x12, rfl⟩, ex3, hD5, hl3⟩ := hP
              have rs3 : RS m.n (itn (fun l fd => lr1 (lwof m.n m.cv) (some (i1.price + ns.sum)) i1.form l fd) j fd0) := rs_itn j (fun k m1 hk hm => rs_lr1 ds oki.form (by omega) hm) rs
              rw [show itn (fun l fd => lr1 (lwof m.n m.cv) (some (i1.price + ns.sum)) i1.form l fd) (j + 1) fd0 = lr1 (lwof m.n m.cv) (some (i1.price + ns.sum)) i1.form j (itn (fun l fd => lr1 (lwof m.n m.cv) (some (i1.price + ns.sum)) i1.form l fd) j fd0) from rfl]
              generalize itn (fun l fd => lr1 (lwof m.n m.cv) (some (i1.price + ns.sum)) i1.form l fd) j fd0 = fd1 at hl3 rs3 ⊢
              obtain ⟨a1, ha1⟩ := rs3.at hj
              obtain ⟨a2, ha2⟩ := ds.at oki.form hj
              have W3 := hW.ex ex3
              obtain ⟨b, r, e1, e2, e3, e4, e5, e6⟩ := W3.get ds.1 oki.form
              have g1 : (fd1.map vO)[j]? = some (.int a1) := by rw [vO_at (by rw [rs3.1]; exact hj), ha1]; rfl
              have k2 : mget (lwof m.n m.cv) i1.form j = r.getD j none := by unfold mget; rw [e4]
              have g2 : (r.map vO)[j]? = some (.int a2) := by rw [vO_at (by omega), ← k2, ha2]; rfl
              refine ⟨_, rfl, _, rfl, l, _, _, _, rfl, rfl, .of hl3, atI_nat g1, ?_⟩
              refine ⟨_, rfl, _, rfl, D2, ns, rfl, .of hD5, _, _, rfl, rfl, ?_⟩
              refine ⟨_, rfl, _, rfl, a, _, _, _, rfl, rfl, .of W3.at', e6, _, rfl, b, _, _, _, rfl, rfl, .of e5, atI_nat g2, _, _, rfl, rfl, _, _, rfl, ?_⟩
              refine ⟨_, rfl, _, rfl, l, _, _, j, rfl, rfl, hl3, ixN_nat (by rw [List.length_map, rs3.1]; exact hj), ⟨_, _, _, rfl⟩, ex3.mut hl0, by rw [upd_ne nDl]; exact hD5, ?_⟩
              have em : (if i1.price + ns.sum + a2 < a1 then i1.price + ns.sum + a2 else a1) = min a1 (i1.price + ns.sum + a2) := by
                by_cases h : i1.price + ns.sum + a2 < a1
                · rw [if_pos h]; omega
                · rw [if_neg h]; omega
              rw [upd_same, lr1, ha1, ha2, em, List.map_set]
              rfl
            · obtain ⟨⟨x10, x11, x12, rfl⟩, ex3, hD5, hl3⟩ := hP
              refine ⟨⟨_, _, _, _, _, _, _, _, rfl⟩, ex3, ?_⟩
              rw [et, lrS, if_pos ⟨h, hnn⟩, ex3']
              exact hl3
      · refine itF (decIN h) ?_
        refine ⟨⟨_, _, _, _, _, _, _, _, rfl⟩, ex, ?_⟩
        rw [et, lrS, if_neg (fun z => h z.1)]
        exact hl1
    · obtain ⟨⟨x5, x6, x7, x8, x9, x10, x11, x12, rfl⟩, ex, hl1⟩ := hP
      rw [List.take_of_length_le (by have := M.ri.length; rw [List.length_map] at this; omega)] at hl1
      have rs := rs_lrF ds (op := op) (rows := rows) hfo
      have hlr : lrow m op rows = (lrF m.n (lwof m.n m.cv) m.ins op rows).map thr := rfl
      generalize lrF m.n (lwof m.n m.cv) m.ins op rows = fd1 at hl1 rs hlr
      refine ⟨_, rfl, l, rfl, ⟨_, .of hl1⟩, fun D2 hD => ?_⟩
      refine lc_it (walk_list (xs := fd1.map vO)) (fun j H' => Ex H1 H' ∧ H' D2 = some (.lst (((lrow m op rows).take j).map vO))) ⟨Ex.new hD, upd_same⟩ (fun j H' _ hP => .of (hP.1 _ _ hl1)) (fun j x _ H2 hj hP hy => ?_) (fun H2 hP => ?_)
      · obtain ⟨rfl, hx⟩ := hy
        obtain ⟨ex2, hD2⟩ := hP
        rw [List.length_map] at hj
        obtain ⟨a1, ha1⟩ := rs.2.at hj
        rw [vO_at hj, ha1] at hx
        cases hx
        have ht : (lrow m op rows).take (j + 1) = (lrow m op rows).take j ++ [thr (some a1)] := by
          rw [hlr, List.take_succ, List.getElem?_map, List.getElem?_eq_getElem hj]
          congr 1
          rw [← getD_at (d := none) (List.getElem?_eq_getElem hj), ha1]
          rfl
        have hlen : (List.map vO ((lrow m op rows).take j)).length < sizeLine := by
          rw [List.length_map, List.length_take]
          have := rs.1
          simp only [sizeLine]
          omega
        refine ⟨rfl, ?_⟩
        refine ⟨_, rfl, 10, 40, rfl, rfl, ⟨by decide, by decide, by decide⟩, _, _, rfl, rfl, _, rfl, ?_⟩
        by_cases hb : a1 ≥ big
        · refine itT (decide_eq_true hb) ⟨_, hD2, hlen, ex2.mut hD, ?_⟩
          rw [upd_same, ht, thr, if_pos hb]
          simp [vO]
        · refine itF (fun z => hb (of_decide_eq_true z)) ⟨_, rfl, _, hD2, hlen, ex2.mut hD, ?_⟩
          rw [upd_same, ht, thr, if_neg hb]
          simp [vO]
      · obtain ⟨ex2, hD2⟩ := hP
        rw [List.take_of_length_le (by rw [hlr]; simp)] at hD2
        exact ⟨D2, _, rfl, .inl ⟨.of hD2, fun t ht => q _ _ ((ex.trans ex2).newT ht) (rd_row upd_same)⟩⟩
end
end Cp
end

section
set_option Elab.async false
set_option linter.all false
/-! rows as least sums -/
namespace Cp
/-- z is below x; None is above all -/
def lb (z : Int) (x : Option Int) : Prop := ∀ v, x = some v → z ≤ v
theorem lb_none (z : Int) : lb z none := fun _ h => by cases h
theorem lb_some {z v : Int} : lb z (some v) ↔ z ≤ v := ⟨fun h => h v rfl, fun h w e => by cases e; exact h⟩
theorem lb_ext {x y : Option Int} (h : ∀ z, lb z x ↔ lb z y) : x = y := by
  cases x with
  | none =>
    cases y with
    | none => rfl
    | some v =>
      have := (h (v + 1)).mp (lb_none _)
      rw [lb_some] at this
      omega
  | some u =>
    cases y with
    | none =>
      have := (h (u + 1)).mpr (lb_none _)
      rw [lb_some] at this
      omega
    | some v =>
      have h1 := (h u).mp (lb_some.mpr (Int.le_refl _))
      have h2 := (h v).mpr (lb_some.mpr (Int.le_refl _))
      rw [lb_some] at h1 h2
      congr 1
      omega
theorem lb_oless {z : Int} {a b : Option Int} : lb z (oless a b) ↔ lb z a ∧ lb z b := by
  cases a with
  | none => exact ⟨fun h => ⟨lb_none z, h⟩, fun h => h.2⟩
  | some a =>
    cases b with
    | none => exact ⟨fun h => ⟨h, lb_none z⟩, fun h => h.1⟩
    | some b =>
      show lb z (some (min a b)) ↔ _
      rw [lb_some, lb_some, lb_some]
      omega
theorem lb_omin {z : Int} : ∀ {l : Row}, lb z (omin l) ↔ ∀ x ∈ l, lb z x
  | [] => ⟨fun _ _ h => (by cases h), fun _ => lb_none z⟩
  | x :: l => by
    rw [omin, lb_oless, lb_omin]
    simp
theorem lb_add {z k : Int} {x : Option Int} : lb z (oadd x (some k)) ↔ lb (z - k) x := by
  cases x with
  | none => exact ⟨fun _ => lb_none _, fun _ => lb_none _⟩
  | some v =>
    show lb z (some (v + k)) ↔ _
    rw [lb_some, lb_some]
    omega
theorem oadd_none (x : Option Int) : oadd x none = none := by cases x <;> rfl
theorem oadd_zero (x : Option Int) : oadd x (some 0) = x := by
  cases x with
  | none => rfl
  | some v => show some (v + 0) = some v; rw [Int.add_zero]
theorem oadd_comm (x y : Option Int) : oadd x y = oadd y x := by
  cases x <;> cases y <;> simp [oadd, Int.add_comm]
theorem oadd_assoc (x y z : Option Int) : oadd (oadd x y) z = oadd x (oadd y z) := by
  cases x <;> cases y <;> cases z <;> simp [oadd, Int.add_assoc]
theorem osum2 (x y : Option Int) : osum [x, y] = oadd x y := by
  show oadd x (oadd y (some 0)) = oadd x y
  rw [oadd_zero]
/-- what an instruction costs over the rows -/
def costF (rows : List Row) (i : Ins) : Option Int := osum (some i.price :: partsF rows i.args)
theorem getD_set {r : Row} {j k : Nat} {x : Option Int} (hj : j < r.length) : (r.set j x).getD k none = if j = k then x else r.getD k none := by
  rw [List.getD_eq_getElem?_getD, List.getD_eq_getElem?_getD, List.getElem?_set]
  by_cases h : j = k
  · subst h
    simp [hj]
  · simp [h]
theorem computedS_lb {op : Nat} {rows : List Row} {i : Ins} {fd : Row} {z : Int} {f : Nat} (hi : i.form < fd.length) : lb z ((computedS op rows i fd).getD f none) ↔ lb z (fd.getD f none) ∧ (i.op = op → i.form = f → lb z (costF rows i)) := by
  unfold computedS
  by_cases h : i.op = op
  · rw [if_pos h, getD_set hi]
    by_cases hf : i.form = f
    · subst hf
      rw [if_pos rfl, lb_oless]
      exact ⟨fun q => ⟨q.1, fun _ _ => q.2⟩, fun q => ⟨q.1, q.2 h rfl⟩⟩
    · rw [if_neg hf]
      exact ⟨fun q => ⟨q, fun _ e => absurd e hf⟩, fun q => q.1⟩
  · rw [if_neg h]
    exact ⟨fun q => ⟨q, fun e => absurd e h⟩, fun q => q.1⟩
theorem computedS_len' (op : Nat) (rows : List Row) (i : Ins) (fd : Row) : (computedS op rows i fd).length = fd.length := by
  unfold computedS
  split <;> simp
theorem computedF_lb {n : Nat} {op : Nat} {rows : List Row} {z : Int} {f : Nat} : ∀ {ins : List Ins}, (∀ i ∈ ins, i.form < n) → (lb z ((computedF n ins op rows).getD f none) ↔ ∀ i ∈ ins, i.op = op → i.form = f → lb z (costF rows i)) := by
  intro ins hi
  unfold computedF
  suffices ∀ (ins : List Ins) (fd : Row), fd.length = n → (∀ i ∈ ins, i.form < n) → (lb z ((ins.foldl (fun fd i => computedS op rows i fd) fd).getD f none) ↔ lb z (fd.getD f none) ∧ ∀ i ∈ ins, i.op = op → i.form = f → lb z (costF rows i)) by
    rw [this ins _ (by simp) hi]
    constructor
    · exact fun q => q.2
    · refine fun q => ⟨?_, q⟩
      rw [List.getD_eq_getElem?_getD, List.getElem?_replicate]
      split <;> exact lb_none z
  intro ins
  induction ins with
  | nil => intro fd _ _; simp
  | cons i r ih =>
    intro fd hl hi
    rw [List.foldl_cons, ih _ (by rw [computedS_len']; exact hl) fun j hj => hi j (List.mem_cons_of_mem _ hj), computedS_lb (by rw [hl]; exact hi i (List.mem_cons_self ..))]
    simp only [List.mem_cons, forall_eq_or_imp]
    rw [and_assoc]
theorem itn_lb {z : Int} {g : Nat} (len : Nat) (f : Nat → Row → Row) (S : Nat → Prop) (hf : ∀ i fd, fd.length = len → (f i fd).length = len ∧ (lb z ((f i fd).getD g none) ↔ lb z (fd.getD g none) ∧ S i)) : ∀ (k : Nat) (fd : Row), fd.length = len → (itn f k fd).length = len ∧ (lb z ((itn f k fd).getD g none) ↔ lb z (fd.getD g none) ∧ ∀ i < k, S i)
  | 0, fd, h => ⟨h, by simp [itn]⟩
  | k + 1, fd, h => by
    obtain ⟨h1, h2⟩ := itn_lb len f S hf k fd h
    obtain ⟨h3, h4⟩ := hf k _ h1
    refine ⟨h3, ?_⟩
    show lb z ((f k (itn f k fd)).getD g none) ↔ _
    rw [h4, h2]
    constructor
    · rintro ⟨⟨a, b⟩, c⟩
      refine ⟨a, fun i hi => ?_⟩
      by_cases e : i = k
      · rw [e]; exact c
      · exact b i (by omega)
    · rintro ⟨a, b⟩
      exact ⟨⟨a, fun i hi => b i (by omega)⟩, b k (by omega)⟩
theorem convS_lb {ways : List Row} {row : Row} {f l g : Nat} {fd : Row} {z : Int} (hl : l < fd.length) : lb z ((convS ways row f l fd).getD g none) ↔ lb z (fd.getD g none) ∧ (l = g → lb z (oadd (row.getD f none) (mget ways f l))) := by
  unfold convS
  rw [getD_set hl]
  by_cases h : l = g
  · subst h
    rw [if_pos rfl, lb_oless, osum2]
    exact ⟨fun q => ⟨q.1, fun _ => q.2⟩, fun q => ⟨q.1, q.2 rfl⟩⟩
  · rw [if_neg h]
    exact ⟨fun q => ⟨q, fun e => absurd e h⟩, fun q => q.1⟩
/-- a square of n -/
def Sq (n : Nat) (ws : List Row) : Prop := ws.length = n ∧ ∀ r ∈ ws, r.length = n
theorem Sq.row {n : Nat} {ws : List Row} (h : Sq n ws) {i : Nat} (hi : i < n) : (ws.getD i []).length = n := by
  rw [List.getD_eq_getElem?_getD, List.getElem?_eq_getElem (by rw [h.1]; exact hi)]
  exact h.2 _ (List.getElem_mem _)
theorem converted_lb {n : Nat} {ways : List Row} (hs : Sq n ways) {row : Row} (hr : row.length = n) {g : Nat} (hg : g < n) {z : Int} : (convertedF ways row).length = n ∧ (lb z ((convertedF ways row).getD g none) ↔ lb z (row.getD g none) ∧ ∀ f < n, lb z (oadd (row.getD f none) (mget ways f g))) := by
  have inner : ∀ f, f < n → ∀ fd : Row, fd.length = n → (itn (fun l fd => convS ways row f l fd) (ways.getD f []).length fd).length = n ∧ (lb z ((itn (fun l fd => convS ways row f l fd) (ways.getD f []).length fd).getD g none) ↔ lb z (fd.getD g none) ∧ lb z (oadd (row.getD f none) (mget ways f g))) := fun f hf fd hfd => by
    rw [hs.row hf]
    have key : ∀ k, k ≤ n → ∀ fd : Row, fd.length = n → (itn (fun l fd => convS ways row f l fd) k fd).length = n ∧ (lb z ((itn (fun l fd => convS ways row f l fd) k fd).getD g none) ↔ lb z (fd.getD g none) ∧ (g < k → lb z (oadd (row.getD f none) (mget ways f g)))) := by
      intro k
      induction k with
      | zero => exact fun _ fd h => ⟨h, by simp [itn]⟩
      | succ k ih =>
        intro hk fd h
        obtain ⟨h1, h2⟩ := ih (by omega) fd h
        refine ⟨by show (convS _ _ _ _ _).length = n; unfold convS; rw [List.length_set]; exact h1, ?_⟩
        show lb z ((convS ways row f k (itn (fun l fd => convS ways row f l fd) k fd)).getD g none) ↔ _
        rw [convS_lb (by rw [h1]; omega), h2]
        constructor
        · rintro ⟨⟨a, b⟩, c⟩
          refine ⟨a, fun hgk => ?_⟩
          by_cases e : k = g
          · have := c e
            rw [e] at this
            exact this
          · exact b (by omega)
        · rintro ⟨a, b⟩
          refine ⟨⟨a, fun h => b (by omega)⟩, fun e => ?_⟩
          subst e
          exact b (by omega)
    obtain ⟨h1, h2⟩ := key n (Nat.le_refl _) fd hfd
    exact ⟨h1, by rw [h2]; exact ⟨fun q => ⟨q.1, q.2 hg⟩, fun q => ⟨q.1, fun _ => q.2⟩⟩⟩
  unfold convertedF
  rw [hr]
  have key : ∀ k, k ≤ n → (itn (fun f fd => itn (fun l fd => convS ways row f l fd) (ways.getD f []).length fd) k row).length = n ∧ (lb z ((itn (fun f fd => itn (fun l fd => convS ways row f l fd) (ways.getD f []).length fd) k row).getD g none) ↔ lb z (row.getD g none) ∧ ∀ f < k, lb z (oadd (row.getD f none) (mget ways f g))) := by
    intro k
    induction k with
    | zero => exact fun _ => ⟨hr, by simp [itn]⟩
    | succ k ih =>
      intro hk
      obtain ⟨h1, h2⟩ := ih (by omega)
      obtain ⟨h3, h4⟩ := inner k (by omega) _ h1
      refine ⟨h3, ?_⟩
      refine h4.trans ?_
      rw [h2]
      constructor
      · rintro ⟨⟨a, b⟩, c⟩
        refine ⟨a, fun f hf => ?_⟩
        by_cases e : f = k
        · rw [e]; exact c
        · exact b f (by omega)
      · rintro ⟨a, b⟩
        exact ⟨⟨a, fun f hf => b f (by omega)⟩, b k (by omega)⟩
  exact key n (Nat.le_refl _)
/-- what is wanted of the ways -/
structure WOk (n : Nat) (cv : List Cv) : Prop where
  sq : Sq n (wof n cv)
  dg : ∀ g, g < n → mget (wof n cv) g g = some 0
  nn : ∀ f g c, f < n → g < n → mget (wof n cv) f g = some c → 0 ≤ c ∧ c ≤ 10
  two : n = 2 → ∀ f g c, f < n → g < n → f ≠ g → mget (wof n cv) f g = some c → ∃ x ∈ cv, c ≤ x.price
/-- an instruction's offer to the form g -/
def offer (m : Mach) (rows : List Row) (g : Nat) (i : Ins) : Option Int := oadd (costF rows i) (mget (wof m.n m.cv) i.form g)
def offers (m : Mach) (op : Nat) (rows : List Row) (g : Nat) : Row := (m.ins.filter fun i => i.op = op).map (offer m rows g)
theorem jrow_lb {m : Mach} (hf : ∀ i ∈ m.ins, i.form < m.n) (w : WOk m.n m.cv) {op : Nat} {rows : List Row} {g : Nat} (hg : g < m.n) (z : Int) : lb z ((jrow m op rows).getD g none) ↔ ∀ i ∈ m.ins, i.op = op → lb z (offer m rows g i) := by
  have hl : (computedF m.n m.ins op rows).length = m.n := by
    unfold computedF
    suffices ∀ (ins : List Ins) (fd : Row), (ins.foldl (fun fd i => computedS op rows i fd) fd).length = fd.length by rw [this]; simp
    intro ins
    induction ins with
    | nil => intro fd; rfl
    | cons i r ih => intro fd; rw [List.foldl_cons, ih, computedS_len']
  unfold jrow jrowW
  rw [(converted_lb w.sq hl hg).2]
  have hc : ∀ f, (computedF m.n m.ins op rows).getD f none = omin ((m.ins.filter fun i => i.op = op ∧ i.form = f).map (costF rows)) := fun f => by
    refine lb_ext fun z => ?_
    rw [computedF_lb hf, lb_omin]
    simp only [List.mem_map, List.mem_filter, decide_eq_true_eq, forall_exists_index, and_imp]
    constructor
    · intro h x i hi h1 h2 e
      rw [← e]
      exact h i hi h1 h2
    · intro h i hi h1 h2
      exact h _ i hi h1 h2 rfl
  constructor
  · rintro ⟨_, h⟩ i hi ho
    have h1 := h i.form (hf i hi)
    unfold offer
    cases e : mget (wof m.n m.cv) i.form g with
    | none => rw [oadd_none]; exact lb_none z
    | some c =>
      rw [e, lb_add, computedF_lb hf] at h1
      rw [lb_add]
      exact h1 i hi ho rfl
  · intro h
    have part : ∀ f < m.n, lb z (oadd ((computedF m.n m.ins op rows).getD f none) (mget (wof m.n m.cv) f g)) := fun f hfn => by
      cases e : mget (wof m.n m.cv) f g with
      | none => rw [oadd_none]; exact lb_none z
      | some c =>
        rw [lb_add, computedF_lb hf]
        intro i hi ho hif
        have := h i hi ho
        unfold offer at this
        rw [hif, e, lb_add] at this
        exact this
    refine ⟨?_, part⟩
    have := part g hg
    rw [w.dg g hg, oadd_zero] at this
    exact this
theorem jrow_eq {m : Mach} (hf : ∀ i ∈ m.ins, i.form < m.n) (w : WOk m.n m.cv) {op : Nat} {rows : List Row} {g : Nat} (hg : g < m.n) : (jrow m op rows).getD g none = omin (offers m op rows g) := by
  refine lb_ext fun z => ?_
  rw [jrow_lb hf w hg, lb_omin]
  unfold offers
  simp only [List.mem_map, List.mem_filter, decide_eq_true_eq, forall_exists_index, and_imp]
  constructor
  · intro h x i hi h1 e
    rw [← e]
    exact h i hi h1
  · intro h i hi h1
    exact h _ i hi h1 rfl
theorem omin_mem : ∀ {l : Row} {v : Int}, omin l = some v → some v ∈ l
  | [], _, h => by cases h
  | none :: l, v, h => List.mem_cons_of_mem _ (omin_mem h)
  | some a :: l, v, h => by
    cases e : omin l with
    | none =>
      rw [omin, e] at h
      cases h
      simp
    | some b =>
      rw [omin, e] at h
      have h2 : min a b = v := Option.some.inj h
      rcases Int.le_total a b with h3 | h3
      · rw [Int.min_eq_left h3] at h2
        rw [h2]
        simp
      · rw [Int.min_eq_right h3] at h2
        exact List.mem_cons_of_mem _ (omin_mem (by rw [e, h2]))
/-- a price is some instruction's offer -/
theorem jrow_att {m : Mach} (hf : ∀ i ∈ m.ins, i.form < m.n) (w : WOk m.n m.cv) {op : Nat} {rows : List Row} {g : Nat} (hg : g < m.n) {v : Int} (h : (jrow m op rows).getD g none = some v) : ∃ i ∈ m.ins, i.op = op ∧ offer m rows g i = some v := by
  rw [jrow_eq hf w hg] at h
  have := omin_mem h
  unfold offers at this
  obtain ⟨i, hi, e⟩ := List.mem_map.mp this
  rw [List.mem_filter] at hi
  exact ⟨i, hi.1, by simpa using hi.2, e⟩
theorem jrow_le {m : Mach} (hf : ∀ i ∈ m.ins, i.form < m.n) (w : WOk m.n m.cv) {op : Nat} {rows : List Row} {g : Nat} (hg : g < m.n) {i : Ins} (hi : i ∈ m.ins) (ho : i.op = op) {u : Int} (hu : offer m rows g i = some u) : ∃ v, (jrow m op rows).getD g none = some v ∧ v ≤ u := by
  cases e : (jrow m op rows).getD g none with
  | none =>
    have := (jrow_lb hf w (op := op) (rows := rows) hg (u + 1)).mp (by rw [e]; exact lb_none _) i hi ho
    rw [hu, lb_some] at this
    omega
  | some v =>
    have := (jrow_lb hf w (op := op) (rows := rows) hg v).mp (by rw [e]; exact lb_some.mpr (Int.le_refl _)) i hi ho
    rw [hu, lb_some] at this
    exact ⟨v, rfl, this⟩
end Cp
end

section
set_option Elab.async false
set_option linter.all false
set_option maxRecDepth 100000
/-! the ways of drawn conversions: a finite check -/
namespace Cp
def sqB (n : Nat) (ws : List Row) : Bool := decide (ws.length = n) && ws.all fun r => decide (r.length = n)
/-- all that is asked of the ways of n forms and the conversions cv -/
def chk (n : Nat) (cv : List Cv) : Bool :=
  let a := wof n cv
  let b := wof (n + 1) cv
  let l := lwof n cv
  sqB n a && sqB (n + 1) b && decide (mget b n n = some 0) &&
  (List.range n).all fun f => decide (mget b n f = none) && decide (mget b f n = none) && (List.range n).all fun g =>
    decide (mget b f g = mget a f g) && (if f = g then decide (mget a f g = some 0) else true) &&
    match mget a f g, mget l f g with
    | some c, some d => decide (c = d) && decide (0 ≤ c) && decide (c ≤ 10) && (if n = 2 ∧ f ≠ g then cv.any fun x => decide (c ≤ x.price) else true)
    | none, some d => decide (big ≤ d)
    | _, _ => false
def allCv (n : Nat) : List Cv := (List.range n).flatMap fun f => (List.range n).flatMap fun l => if f = l then [] else (List.range 6).map fun (p : Nat) => ⟨f, l, (p : Int)⟩
theorem chk1 : chk 1 [] = true := by decide +kernel
theorem chk2a : chk 2 [] = true := by decide +kernel
theorem chk2b : ((allCv 2).all fun c => chk 2 [c]) = true := by decide +kernel
theorem chk2c : ((allCv 2).all fun c => (allCv 2).all fun d => chk 2 [c, d]) = true := by decide +kernel
theorem chk3a : chk 3 [] = true := by decide +kernel
theorem chk3b : ((allCv 3).all fun c => chk 3 [c]) = true := by decide +kernel
end Cp
end

section
set_option Elab.async false
set_option linter.all false
set_option maxRecDepth 100000
/-! the ways of two drawn conversions: the check, by the first one -/
namespace Cp
def c3 (i : Nat) : Cv := (allCv 3).getD i ⟨0, 0, 0⟩
theorem chk3c_0 : ((allCv 3).all fun d => chk 3 [c3 0, d]) = true := by decide +kernel
theorem chk3c_1 : ((allCv 3).all fun d => chk 3 [c3 1, d]) = true := by decide +kernel
theorem chk3c_2 : ((allCv 3).all fun d => chk 3 [c3 2, d]) = true := by decide +kernel
theorem chk3c_3 : ((allCv 3).all fun d => chk 3 [c3 3, d]) = true := by decide +kernel
theorem chk3c_4 : ((allCv 3).all fun d => chk 3 [c3 4, d]) = true := by decide +kernel
theorem chk3c_5 : ((allCv 3).all fun d => chk 3 [c3 5, d]) = true := by decide +kernel
theorem chk3c_6 : ((allCv 3).all fun d => chk 3 [c3 6, d]) = true := by decide +kernel
theorem chk3c_7 : ((allCv 3).all fun d => chk 3 [c3 7, d]) = true := by decide +kernel
theorem chk3c_8 : ((allCv 3).all fun d => chk 3 [c3 8, d]) = true := by decide +kernel
theorem chk3c_9 : ((allCv 3).all fun d => chk 3 [c3 9, d]) = true := by decide +kernel
theorem chk3c_10 : ((allCv 3).all fun d => chk 3 [c3 10, d]) = true := by decide +kernel
theorem chk3c_11 : ((allCv 3).all fun d => chk 3 [c3 11, d]) = true := by decide +kernel
theorem chk3c_12 : ((allCv 3).all fun d => chk 3 [c3 12, d]) = true := by decide +kernel
theorem chk3c_13 : ((allCv 3).all fun d => chk 3 [c3 13, d]) = true := by decide +kernel
theorem chk3c_14 : ((allCv 3).all fun d => chk 3 [c3 14, d]) = true := by decide +kernel
theorem chk3c_15 : ((allCv 3).all fun d => chk 3 [c3 15, d]) = true := by decide +kernel
theorem chk3c_16 : ((allCv 3).all fun d => chk 3 [c3 16, d]) = true := by decide +kernel
theorem chk3c_17 : ((allCv 3).all fun d => chk 3 [c3 17, d]) = true := by decide +kernel
theorem chk3c_18 : ((allCv 3).all fun d => chk 3 [c3 18, d]) = true := by decide +kernel
theorem chk3c_19 : ((allCv 3).all fun d => chk 3 [c3 19, d]) = true := by decide +kernel
theorem chk3c_20 : ((allCv 3).all fun d => chk 3 [c3 20, d]) = true := by decide +kernel
theorem chk3c_21 : ((allCv 3).all fun d => chk 3 [c3 21, d]) = true := by decide +kernel
theorem chk3c_22 : ((allCv 3).all fun d => chk 3 [c3 22, d]) = true := by decide +kernel
theorem chk3c_23 : ((allCv 3).all fun d => chk 3 [c3 23, d]) = true := by decide +kernel
theorem chk3c_24 : ((allCv 3).all fun d => chk 3 [c3 24, d]) = true := by decide +kernel
theorem chk3c_25 : ((allCv 3).all fun d => chk 3 [c3 25, d]) = true := by decide +kernel
theorem chk3c_26 : ((allCv 3).all fun d => chk 3 [c3 26, d]) = true := by decide +kernel
theorem chk3c_27 : ((allCv 3).all fun d => chk 3 [c3 27, d]) = true := by decide +kernel
theorem chk3c_28 : ((allCv 3).all fun d => chk 3 [c3 28, d]) = true := by decide +kernel
theorem chk3c_29 : ((allCv 3).all fun d => chk 3 [c3 29, d]) = true := by decide +kernel
theorem chk3c_30 : ((allCv 3).all fun d => chk 3 [c3 30, d]) = true := by decide +kernel
theorem chk3c_31 : ((allCv 3).all fun d => chk 3 [c3 31, d]) = true := by decide +kernel
theorem chk3c_32 : ((allCv 3).all fun d => chk 3 [c3 32, d]) = true := by decide +kernel
theorem chk3c_33 : ((allCv 3).all fun d => chk 3 [c3 33, d]) = true := by decide +kernel
theorem chk3c_34 : ((allCv 3).all fun d => chk 3 [c3 34, d]) = true := by decide +kernel
theorem chk3c_35 : ((allCv 3).all fun d => chk 3 [c3 35, d]) = true := by decide +kernel
theorem chk3c : ∀ (i : Nat), i < 36 → ((allCv 3).all fun d => chk 3 [c3 i, d]) = true
  | 0, _ => chk3c_0
  | 1, _ => chk3c_1
  | 2, _ => chk3c_2
  | 3, _ => chk3c_3
  | 4, _ => chk3c_4
  | 5, _ => chk3c_5
  | 6, _ => chk3c_6
  | 7, _ => chk3c_7
  | 8, _ => chk3c_8
  | 9, _ => chk3c_9
  | 10, _ => chk3c_10
  | 11, _ => chk3c_11
  | 12, _ => chk3c_12
  | 13, _ => chk3c_13
  | 14, _ => chk3c_14
  | 15, _ => chk3c_15
  | 16, _ => chk3c_16
  | 17, _ => chk3c_17
  | 18, _ => chk3c_18
  | 19, _ => chk3c_19
  | 20, _ => chk3c_20
  | 21, _ => chk3c_21
  | 22, _ => chk3c_22
  | 23, _ => chk3c_23
  | 24, _ => chk3c_24
  | 25, _ => chk3c_25
  | 26, _ => chk3c_26
  | 27, _ => chk3c_27
  | 28, _ => chk3c_28
  | 29, _ => chk3c_29
  | 30, _ => chk3c_30
  | 31, _ => chk3c_31
  | 32, _ => chk3c_32
  | 33, _ => chk3c_33
  | 34, _ => chk3c_34
  | 35, _ => chk3c_35
  | n + 36, h => absurd h (by omega)
theorem allCv_mem {n : Nat} {c : Cv} (h : OkC n c) (h5 : c.price ≤ 5) : c ∈ allCv n := by
  unfold allCv
  simp only [List.mem_flatMap, List.mem_range]
  refine ⟨c.first, h.first, c.last, h.last, ?_⟩
  rw [if_neg h.ne, List.mem_map]
  have p0 := h.p0
  refine ⟨c.price.toNat, by rw [List.mem_range]; omega, ?_⟩
  obtain ⟨a, b, p⟩ := c
  simp only at p0 ⊢
  rw [Int.toNat_of_nonneg p0]
/-- drawn conversions pass the check -/
theorem chk_dr {n : Nat} {cv : List Cv} (h1 : 1 ≤ n) (h3 : n ≤ 3) (hc : ∀ c ∈ cv, OkC n c ∧ c.price ≤ 5) (hl : cv.length ≤ 2) : chk n cv = true := by
  have mem : ∀ c ∈ cv, c ∈ allCv n := fun c hcm => allCv_mem (hc c hcm).1 (hc c hcm).2
  have hn : n = 1 ∨ n = 2 ∨ n = 3 := by omega
  match cv, hl, mem, hc with
  | [], _, _, _ =>
    rcases hn with rfl | rfl | rfl
    · exact chk1
    · exact chk2a
    · exact chk3a
  | [c], _, mem, hc =>
    have m1 := mem c (by simp)
    rcases hn with rfl | rfl | rfl
    · have := (hc c (by simp)).1
      have h1 := this.first
      have h2 := this.last
      exact absurd (by omega : c.first = c.last) this.ne
    · exact List.all_eq_true.mp chk2b c m1
    · exact List.all_eq_true.mp chk3b c m1
  | [c, d], _, mem, hc =>
    have m1 := mem c (by simp)
    have m2 := mem d (by simp)
    rcases hn with rfl | rfl | rfl
    · have := (hc c (by simp)).1
      have h1 := this.first
      have h2 := this.last
      exact absurd (by omega : c.first = c.last) this.ne
    · exact List.all_eq_true.mp (List.all_eq_true.mp chk2c c m1) d m2
    · obtain ⟨i, hi, e⟩ := List.getElem_of_mem m1
      have h36 : i < 36 := by
        have : (allCv 3).length = 36 := by decide +kernel
        omega
      have ec : c3 i = c := by
        unfold c3
        rw [List.getD_eq_getElem?_getD, List.getElem?_eq_getElem hi, e]
        rfl
      have := List.all_eq_true.mp (chk3c i h36) d m2
      rw [ec] at this
      exact this
  | _ :: _ :: _ :: _, hl, _, _ => simp at hl
end Cp
end

section
set_option Elab.async false
set_option linter.all false
set_option maxRecDepth 100000
/-! what the check tells -/
namespace Cp
theorem sqB_sq {n : Nat} {ws : List Row} (h : sqB n ws = true) : Sq n ws := by
  unfold sqB at h
  simp only [Bool.and_eq_true, List.all_eq_true, decide_eq_true_eq] at h
  exact h
structure Chk (n : Nat) (cv : List Cv) : Prop where
  sqa : Sq n (wof n cv)
  sqb : Sq (n + 1) (wof (n + 1) cv)
  bnn : mget (wof (n + 1) cv) n n = some 0
  bnf : ∀ f, f < n → mget (wof (n + 1) cv) n f = none
  bfn : ∀ f, f < n → mget (wof (n + 1) cv) f n = none
  bfg : ∀ f g, f < n → g < n → mget (wof (n + 1) cv) f g = mget (wof n cv) f g
  dg : ∀ g, g < n → mget (wof n cv) g g = some 0
  yes : ∀ f g c, f < n → g < n → mget (wof n cv) f g = some c → mget (lwof n cv) f g = some c ∧ 0 ≤ c ∧ c ≤ 10 ∧ (n = 2 → f ≠ g → ∃ x ∈ cv, c ≤ x.price)
  no : ∀ f g, f < n → g < n → mget (wof n cv) f g = none → ∃ d, mget (lwof n cv) f g = some d ∧ big ≤ d
theorem chk_of {n : Nat} {cv : List Cv} (h : chk n cv = true) : Chk n cv := by
  unfold chk at h
  simp only [Bool.and_eq_true, List.all_eq_true, List.mem_range, decide_eq_true_eq] at h
  obtain ⟨⟨⟨h1, h2⟩, h3⟩, h4⟩ := h
  refine ⟨sqB_sq h1, sqB_sq h2, h3, fun f hf => (h4 f hf).1.1, fun f hf => (h4 f hf).1.2, fun f g hf hg => ((h4 f hf).2 g hg).1.1, fun g hg => ?_, fun f g c hf hg e => ?_, fun f g hf hg e => ?_⟩
  · have := ((h4 g hg).2 g hg).1.2
    rw [if_pos rfl] at this
    simpa using this
  · have := ((h4 f hf).2 g hg).2
    rw [e] at this
    cases e2 : mget (lwof n cv) f g with
    | none => rw [e2] at this; cases this
    | some d =>
      rw [e2] at this
      simp only [Bool.and_eq_true, decide_eq_true_eq] at this
      obtain ⟨⟨⟨g1, g2⟩, g3⟩, g4⟩ := this
      refine ⟨by rw [g1], g2, g3, fun hn hfg => ?_⟩
      rw [if_pos ⟨hn, hfg⟩, List.any_eq_true] at g4
      obtain ⟨x, hx, hc⟩ := g4
      exact ⟨x, hx, of_decide_eq_true hc⟩
  · have := ((h4 f hf).2 g hg).2
    rw [e] at this
    cases e2 : mget (lwof n cv) f g with
    | none => rw [e2] at this; cases this
    | some d =>
      rw [e2] at this
      exact ⟨d, rfl, of_decide_eq_true this⟩
theorem Chk.ok {n : Nat} {cv : List Cv} (h : Chk n cv) : WOk n cv :=
  ⟨h.sqa, h.dg, fun f g c hf hg e => ⟨(h.yes f g c hf hg e).2.1, (h.yes f g c hf hg e).2.2.1⟩, fun hn f g c hf hg hfg e => (h.yes f g c hf hg e).2.2.2 hn hfg⟩
theorem Chk.okW {n : Nat} {cv : List Cv} (h1 : 1 ≤ n) (h : Chk n cv) : WOk (n + 1) cv := by
  have cases4 : ∀ f g, f < n + 1 → g < n + 1 → (f < n ∧ g < n) ∨ (f < n ∧ g = n) ∨ (f = n ∧ g < n) ∨ (f = n ∧ g = n) := fun f g hf hg => by omega
  refine ⟨h.sqb, fun g hg => ?_, fun f g c hf hg e => ?_, fun hn f g c hf hg hfg e => ?_⟩
  · by_cases e : g = n
    · rw [e]; exact h.bnn
    · rw [h.bfg g g (by omega) (by omega)]
      exact h.dg g (by omega)
  · rcases cases4 f g hf hg with ⟨a, b⟩ | ⟨a, b⟩ | ⟨a, b⟩ | ⟨a, b⟩
    · rw [h.bfg f g a b] at e
      exact ⟨(h.yes f g c a b e).2.1, (h.yes f g c a b e).2.2.1⟩
    · rw [b, h.bfn f a] at e
      cases e
    · rw [a, h.bnf g b] at e
      cases e
    · rw [a, b, h.bnn] at e
      cases e
      exact ⟨by omega, by omega⟩
  · rcases cases4 f g hf hg with ⟨a, b⟩ | ⟨a, b⟩ | ⟨a, b⟩ | ⟨a, b⟩
    · omega
    · rw [b, h.bfn f a] at e
      cases e
    · rw [a, h.bnf g b] at e
      cases e
    · omega
/-! ### costs and shifts -/
def shift (k : Int) (r : Row) : Row := r.map (Option.map (· + k))
theorem shift_getD (k : Int) (r : Row) (j : Nat) : (shift k r).getD j none = (r.getD j none).map (· + k) := by
  unfold shift
  rw [List.getD_eq_getElem?_getD, List.getD_eq_getElem?_getD, List.getElem?_map]
  cases r[j]? <;> rfl
theorem shift_len (k : Int) (r : Row) : (shift k r).length = r.length := by unfold shift; simp
theorem map_add_eq (x : Option Int) (k : Int) : x.map (· + k) = oadd x (some k) := by cases x <;> rfl
theorem row_ext {r s : Row} (h : r.length = s.length) (e : ∀ g, g < r.length → r.getD g none = s.getD g none) : r = s := by
  refine List.ext_getElem h fun i h1 h2 => ?_
  have := e i h1
  rw [List.getD_eq_getElem?_getD, List.getD_eq_getElem?_getD, List.getElem?_eq_getElem h1, List.getElem?_eq_getElem h2] at this
  exact this
/-- all rows shifted, by ks -/
inductive Sh : List Row → List Row → Int → Prop where
  | nil : Sh [] [] 0
  | cons {r : Row} {rs ss : List Row} {k t : Int} : Sh rs ss t → Sh (shift k r :: rs) (r :: ss) (k + t)
theorem parts_shift {rs ss : List Row} {t : Int} (h : Sh rs ss t) : ∀ {args : List Nat}, args.length = ss.length → osum (partsF rs args) = oadd (osum (partsF ss args)) (some t) := by
  induction h with
  | nil =>
    intro args ha
    rw [List.length_nil, List.length_eq_zero_iff] at ha
    subst ha
    rfl
  | @cons r rs ss k t h ih =>
    intro args ha
    match args, ha with
    | a :: as, ha =>
      have := ih (args := as) (by simpa using ha)
      show oadd ((shift k r).getD a none) (osum (partsF rs as)) = oadd (oadd (r.getD a none) (osum (partsF ss as))) (some (k + t))
      rw [this, shift_getD]
      cases r.getD a none with
      | none => rfl
      | some x =>
        cases osum (partsF ss as) with
        | none => rfl
        | some y =>
          show some (x + k + (y + t)) = some (x + y + (k + t))
          congr 1
          omega
theorem cost_shift {rs ss : List Row} {t : Int} (h : Sh rs ss t) {i : Ins} (ha : i.args.length = ss.length) : costF rs i = oadd (costF ss i) (some t) := by
  unfold costF
  show oadd (some i.price) (osum (partsF rs i.args)) = oadd (oadd (some i.price) (osum (partsF ss i.args))) (some t)
  rw [parts_shift h ha, oadd_assoc]
theorem Sh.len {rs ss : List Row} {t : Int} (h : Sh rs ss t) : rs.length = ss.length := by
  induction h with
  | nil => rfl
  | cons _ ih => rw [List.length_cons, List.length_cons, ih]
/-- the machine's instructions fit -/
structure MOk (m : Mach) : Prop where
  ins : ∀ i ∈ m.ins, OkI m.ar m.n i
  w : WOk m.n m.cv
theorem MOk.form {m : Mach} (h : MOk m) : ∀ i ∈ m.ins, i.form < m.n := fun i hi => (h.ins i hi).form
theorem jrow_len' (m : Mach) (op : Nat) (rows : List Row) : (jrow m op rows).length = m.n := by
  unfold jrow jrowW convertedF
  have h1 : (computedF m.n m.ins op rows).length = m.n := by
    unfold computedF
    suffices ∀ (ins : List Ins) (fd : Row), (ins.foldl (fun fd i => computedS op rows i fd) fd).length = fd.length by rw [this]; simp
    intro ins
    induction ins with
    | nil => intro fd; rfl
    | cons i r ih => intro fd; rw [List.foldl_cons, ih, computedS_len']
  generalize computedF m.n m.ins op rows = row at h1
  have hi : ∀ (f : Nat → Row → Row), (∀ i m, (f i m).length = m.length) → ∀ k (m : Row), (itn f k m).length = m.length := fun f hf k => by
    induction k with
    | zero => exact fun m => rfl
    | succ k ih => exact fun m => (hf k _).trans (ih m)
  rw [hi _ (fun f fd => hi _ (fun l fd => by unfold convS; simp) _ _), h1]
theorem jrow_shift {m : Mach} (h : MOk m) {op : Nat} {rs ss : List Row} {t : Int} (hs : Sh rs ss t) (ha : m.ar[op]? = some ss.length) : jrow m op rs = shift t (jrow m op ss) := by
  refine row_ext (by rw [shift_len, jrow_len', jrow_len']) fun g hg => ?_
  rw [jrow_len'] at hg
  rw [shift_getD]
  refine lb_ext fun z => ?_
  rw [map_add_eq, lb_add, jrow_lb h.form h.w hg, jrow_lb h.form h.w hg]
  have key : ∀ i ∈ m.ins, i.op = op → (lb z (offer m rs g i) ↔ lb (z - t) (offer m ss g i)) := fun i hi ho => by
    have hal : i.args.length = ss.length := by
      have := (h.ins i hi).op
      rw [ho, ha] at this
      exact (Option.some.inj this).symm
    unfold offer
    rw [cost_shift hs hal, oadd_assoc, oadd_comm (some t), ← oadd_assoc, lb_add]
  exact ⟨fun q i hi ho => (key i hi ho).mp (q i hi ho), fun q i hi ho => (key i hi ho).mpr (q i hi ho)⟩
/-- a row of Nones -/
def Dead (r : Row) : Prop := ∀ x ∈ r, x = none
theorem Dead.at {r : Row} (h : Dead r) (j : Nat) : r.getD j none = none := by
  rw [List.getD_eq_getElem?_getD]
  cases e : r[j]? with
  | none => rfl
  | some x => exact h x (List.mem_of_getElem? e)
theorem parts_dead : ∀ {rows : List Row} {args : List Nat}, args.length = rows.length → (∃ r ∈ rows, Dead r) → osum (partsF rows args) = none
  | [], _, _, ⟨r, hr, _⟩ => by cases hr
  | r :: rows, a :: as, hl, ⟨r', hr, hd⟩ => by
    show oadd (r.getD a none) (osum (partsF rows as)) = none
    rcases List.mem_cons.mp hr with rfl | hr
    · rw [hd.at]
      rfl
    · rw [parts_dead (by simpa using hl) ⟨r', hr, hd⟩, oadd_none]
  | _ :: _, [], hl, _ => by simp at hl
theorem jrow_dead {m : Mach} (h : MOk m) {op : Nat} {rows : List Row} (ha : m.ar[op]? = some rows.length) (hd : ∃ r ∈ rows, Dead r) : Dead (jrow m op rows) := fun x hx => by
  obtain ⟨g, hg, rfl⟩ := List.getElem_of_mem hx
  have hg2 : g < m.n := by rw [jrow_len'] at hg; exact hg
  have : (jrow m op rows).getD g none = none := by
    cases e : (jrow m op rows).getD g none with
    | none => rfl
    | some v =>
      obtain ⟨i, hi, ho, hof⟩ := jrow_att h.form h.w hg2 e
      have hal : i.args.length = rows.length := by
        have := (h.ins i hi).op
        rw [ho, ha] at this
        exact (Option.some.inj this).symm
      unfold offer costF at hof
      have : osum (some i.price :: partsF rows i.args) = none := by
        show oadd (some i.price) (osum (partsF rows i.args)) = none
        rw [parts_dead hal hd]
        rfl
      rw [this] at hof
      cases hof
  rw [List.getD_eq_getElem?_getD, List.getElem?_eq_getElem hg] at this
  exact this
/-! ### relative rows -/
theorem somes_mem {r : Row} {i : Int} : i ∈ somes r ↔ some i ∈ r := by
  unfold somes
  rw [List.mem_filterMap]
  constructor
  · rintro ⟨x, hx, e⟩
    obtain rfl : x = some i := e
    exact hx
  · exact fun h => ⟨some i, h, rfl⟩
theorem base_none {r : Row} : baseF r = none ↔ Dead r := by
  constructor
  · intro h x hx
    cases x with
    | none => rfl
    | some i =>
      have := (lb_omin (z := i + 1) (l := r)).mp (by show lb _ (baseF r); rw [h]; exact lb_none _) (some i) hx
      rw [lb_some] at this
      omega
  · intro h
    refine lb_ext fun z => ?_
    show lb z (omin r) ↔ _
    rw [lb_omin]
    exact ⟨fun _ => lb_none z, fun _ x hx => by rw [h x hx]; exact lb_none z⟩
theorem dead_rel {r : Row} (h : Dead r) : relS r = r := by
  unfold relS
  refine List.ext_getElem (by simp) fun i h1 h2 => ?_
  rw [List.getElem_map, h _ (List.getElem_mem _)]
  rfl
theorem shift_zero (r : Row) : shift 0 r = r := by
  unfold shift
  refine List.ext_getElem (by simp) fun i h1 h2 => ?_
  rw [List.getElem_map]
  cases r[i] with
  | none => rfl
  | some v => simp
theorem shift_shift (a b : Int) (r : Row) : shift a (shift b r) = shift (b + a) r := by
  unfold shift
  rw [List.map_map]
  refine List.map_congr_left fun x _ => ?_
  cases x with
  | none => rfl
  | some v => simp [Int.add_assoc]
theorem rel_shift {r : Row} {b : Int} (h : baseF r = some b) : r = shift b (relS r) ∧ relS r = shift (-b) r := by
  have e : relS r = shift (-b) r := by
    unfold relS shift
    rw [h]
    refine List.map_congr_left fun x _ => ?_
    cases x with
    | none => rfl
    | some v => simp [Int.sub_eq_add_neg]
  refine ⟨?_, e⟩
  rw [e, shift_shift, show -b + b = 0 by omega, shift_zero]
theorem base_shift (k : Int) (r : Row) : baseF (shift k r) = (baseF r).map (· + k) := by
  refine lb_ext fun z => ?_
  rw [map_add_eq, lb_add]
  show lb z (omin _) ↔ lb _ (omin _)
  rw [lb_omin, lb_omin]
  unfold shift
  simp only [List.mem_map, forall_exists_index, and_imp, forall_apply_eq_imp_iff₂]
  refine forall_congr' fun x => forall_congr' fun _ => ?_
  rw [map_add_eq, lb_add]
theorem relS_shift (k : Int) (r : Row) : relS (shift k r) = relS r := by
  cases hb : baseF r with
  | none =>
    have hd := base_none.mp hb
    have e : shift k r = r := by
      unfold shift
      refine List.ext_getElem (by simp) fun i h1 h2 => ?_
      rw [List.getElem_map, hd _ (List.getElem_mem _)]
      rfl
    rw [e]
  | some b =>
    have h1 := (rel_shift hb).2
    have h2 : baseF (shift k r) = some (b + k) := by rw [base_shift, hb]; rfl
    rw [(rel_shift h2).2, h1, shift_shift]
    congr 1
    omega
theorem rel_rel (r : Row) : relS (relS r) = relS r := by
  cases hb : baseF r with
  | none => rw [dead_rel (base_none.mp hb), dead_rel (base_none.mp hb)]
  | some b => rw [(rel_shift hb).2, relS_shift, (rel_shift hb).2]
theorem dead_relS {r : Row} : Dead (relS r) ↔ Dead r := by
  rw [← base_none, ← base_none]
  cases hb : baseF r with
  | none => rw [dead_rel (base_none.mp hb), hb]
  | some b => rw [(rel_shift hb).2, base_shift, hb]; simp
end Cp
end

section
set_option Elab.async false
set_option linter.all false
set_option maxRecDepth 100000
/-! trees -/
namespace Cp
inductive T where
  | leaf (op : Nat)
  | un (op : Nat) (t : T)
  | bin (op : Nat) (t u : T)
def T.op : T → Nat
  | .leaf o => o
  | .un o _ => o
  | .bin o _ _ => o
def T.kids : T → List T
  | .leaf _ => []
  | .un _ t => [t]
  | .bin _ t u => [t, u]
def T.size : T → Nat
  | .leaf _ => 1
  | .un _ t => t.size + 1
  | .bin _ t u => t.size + u.size + 1
def T.WF (ar : List Nat) : T → Prop
  | .leaf o => ar[o]? = some 0
  | .un o t => ar[o]? = some 1 ∧ t.WF ar
  | .bin o t u => ar[o]? = some 2 ∧ t.WF ar ∧ u.WF ar
def rowT (m : Mach) : T → Row
  | .leaf o => jrow m o []
  | .un o t => jrow m o [rowT m t]
  | .bin o t u => jrow m o [rowT m t, rowT m u]
def mkT (op : Nat) : List T → T
  | [] => .leaf op
  | [t] => .un op t
  | t :: u :: _ => .bin op t u
theorem rowT_kids (m : Mach) (t : T) : rowT m t = jrow m t.op (t.kids.map (rowT m)) := by cases t <;> rfl
theorem wf_iff {ar : List Nat} {t : T} : t.WF ar ↔ ar[t.op]? = some t.kids.length ∧ ∀ x ∈ t.kids, x.WF ar := by
  cases t <;> simp [T.WF, T.op, T.kids]
theorem kid_size {t x : T} (h : x ∈ t.kids) : x.size < t.size := by
  cases t with
  | leaf o => cases h
  | un o t =>
    obtain rfl : x = t := by simpa [T.kids] using h
    simp [T.size]
  | bin o t u =>
    have : x = t ∨ x = u := by simpa [T.kids] using h
    rcases this with rfl | rfl <;> simp [T.size] <;> omega
theorem mkT_op (op : Nat) (l : List T) : (mkT op l).op = op := by
  match l with
  | [] => rfl
  | [_] => rfl
  | _ :: _ :: _ => rfl
theorem mkT_kids {op : Nat} {l : List T} (h : l.length ≤ 2) : (mkT op l).kids = l := by
  match l, h with
  | [], _ => rfl
  | [_], _ => rfl
  | [_, _], _ => rfl
  | _ :: _ :: _ :: _, h => simp at h
theorem T.ind {p : T → Prop} (h : ∀ t, (∀ x ∈ t.kids, p x) → p t) (t : T) : p t := by
  induction t with
  | leaf o => exact h _ (by simp [T.kids])
  | un o t ih => exact h _ (by simpa [T.kids] using ih)
  | bin o t u ih1 ih2 => exact h _ (by simp [T.kids]; exact ⟨ih1, ih2⟩)
def stT (m : Mach) (t : T) : Row := relS (rowT m t)
def baT (m : Mach) (t : T) : Option Int := baseF (rowT m t)
theorem rowT_len (m : Mach) (t : T) : (rowT m t).length = m.n := by rw [rowT_kids, jrow_len']
theorem dead_eq {r s : Row} (h : r.length = s.length) (a : Dead r) (b : Dead s) : r = s :=
  row_ext h fun g _ => by rw [a.at, b.at]
section
variable {m : Mach}
/-- the children's rows against their states -/
theorem kids_sh : ∀ (ts : List T), (∃ k, osum (ts.map (baT m)) = some k ∧ Sh (ts.map (rowT m)) (ts.map (stT m)) k) ∨ (osum (ts.map (baT m)) = none ∧ (∃ r ∈ ts.map (rowT m), Dead r) ∧ ∃ r ∈ ts.map (stT m), Dead r)
  | [] => .inl ⟨0, rfl, .nil⟩
  | t :: ts => by
    cases hb : baT m t with
    | none =>
      have hd := base_none.mp hb
      refine .inr ⟨?_, ⟨_, List.mem_cons_self .., hd⟩, ⟨_, List.mem_cons_self .., dead_relS.mpr hd⟩⟩
      rw [List.map_cons, osum, hb]
      rfl
    | some b =>
      rcases kids_sh ts with ⟨k, h1, h2⟩ | ⟨h1, ⟨r, h2, h3⟩, ⟨r', h4, h5⟩⟩
      · refine .inl ⟨b + k, by rw [List.map_cons, osum, hb, h1]; rfl, ?_⟩
        rw [List.map_cons, List.map_cons, (rel_shift (r := rowT m t) hb).1]
        exact .cons h2
      · exact .inr ⟨by rw [List.map_cons, osum, h1, oadd_none], ⟨r, List.mem_cons_of_mem _ h2, h3⟩, ⟨r', List.mem_cons_of_mem _ h4, h5⟩⟩
/-- a tree's state and base come of the children's states -/
theorem node_st (h : MOk m) {t : T} (wf : t.WF m.ar) : stT m t = relS (jrow m t.op (t.kids.map (stT m))) ∧ baT m t = oadd (baseF (jrow m t.op (t.kids.map (stT m)))) (osum (t.kids.map (baT m))) := by
  have ha := (wf_iff.mp wf).1
  unfold stT baT
  rw [rowT_kids]
  rcases kids_sh (m := m) t.kids with ⟨k, h1, h2⟩ | ⟨h1, h2, h3⟩
  · have e := jrow_shift h h2 (op := t.op) (by rw [List.length_map]; exact ha)
    refine ⟨by rw [e, relS_shift]; rfl, ?_⟩
    rw [e, base_shift, map_add_eq, ← h1]
    rfl
  · have d1 := jrow_dead h (op := t.op) (by rw [List.length_map]; exact ha) h2
    have d2 := jrow_dead h (op := t.op) (by rw [List.length_map]; exact ha) h3
    have e : jrow m t.op (t.kids.map (rowT m)) = jrow m t.op (t.kids.map (stT m)) := dead_eq (by rw [jrow_len', jrow_len']) d1 d2
    refine ⟨by rw [e]; rfl, ?_⟩
    have h1' : osum (t.kids.map fun t => baseF (rowT m t)) = none := h1
    rw [h1', oadd_none]
    exact base_none.mpr d1
/-- the goal's price -/
def goT (m : Mach) (t : T) : Option Int := (rowT m t).getD 0 none
theorem goal_st (m : Mach) (t : T) : goT m t = oadd ((stT m t).getD 0 none) (baT m t) := by
  unfold goT stT baT
  cases hb : baseF (rowT m t) with
  | none => rw [oadd_none, (base_none.mp hb).at]
  | some b =>
    conv => lhs; rw [(rel_shift hb).1]
    rw [shift_getD, map_add_eq]
/-- reachable states are trees' -/
theorem rch_tree (h : MOk m) (a2 : ∀ a ∈ m.ar, a ≤ 2) {s : Row} (r : Rch m s) : ∃ t : T, t.WF m.ar ∧ stT m t = s := by
  induction r with
  | step op ss ha hr ih =>
    have hl := a2 _ (List.mem_of_getElem? ha)
    have : ∃ ts : List T, ts.map (stT m) = ss ∧ ∀ t ∈ ts, t.WF m.ar := by
      clear ha hl
      induction ss with
      | nil => exact ⟨[], rfl, by simp⟩
      | cons s ss ih2 =>
        obtain ⟨t, h1, h2⟩ := ih s (List.mem_cons_self ..)
        obtain ⟨ts, h3, h4⟩ := ih2 (fun s hs => hr s (List.mem_cons_of_mem _ hs)) (fun s hs => ih s (List.mem_cons_of_mem _ hs))
        exact ⟨t :: ts, by rw [List.map_cons, h2, h3], fun x hx => by
          rcases List.mem_cons.mp hx with rfl | hx
          · exact h1
          · exact h4 x hx⟩
    obtain ⟨ts, h1, h2⟩ := this
    have tl : ts.length = ss.length := by rw [← h1, List.length_map]
    have k := mkT_kids (op := op) (l := ts) (by omega)
    have wf : (mkT op ts).WF m.ar := wf_iff.mpr ⟨by rw [mkT_op, k, tl]; exact ha, by rw [k]; exact h2⟩
    exact ⟨mkT op ts, wf, by rw [(node_st h wf).1, mkT_op, k, h1]⟩
theorem tree_rch (h : MOk m) : ∀ {t : T}, t.WF m.ar → Rch m (stT m t) := by
  intro t
  refine T.ind (p := fun t => t.WF m.ar → Rch m (stT m t)) (fun t ih wf => ?_) t
  obtain ⟨h1, h2⟩ := wf_iff.mp wf
  rw [(node_st h wf).1]
  refine .step _ _ (by rw [List.length_map]; exact h1) fun s hs => ?_
  obtain ⟨x, hx, rfl⟩ := List.mem_map.mp hs
  exact ih x hx (h2 x hx)
/-- prices are not below zero -/
theorem rowT_nn (h : MOk m) : ∀ (t : T), t.WF m.ar → ∀ v, some v ∈ rowT m t → 0 ≤ v := by
  refine T.ind fun t ih wf v hv => ?_
  obtain ⟨h1, h2⟩ := wf_iff.mp wf
  obtain ⟨g, hg, e⟩ := List.getElem_of_mem hv
  rw [rowT_len] at hg
  have e2 : (rowT m t).getD g none = some v := by
    rw [List.getD_eq_getElem?_getD, List.getElem?_eq_getElem (by rw [rowT_len]; exact hg), e]
    rfl
  rw [rowT_kids] at e2
  obtain ⟨i, hi, ho, hof⟩ := jrow_att h.form h.w hg e2
  have oki := h.ins i hi
  unfold offer at hof
  cases ec : costF (t.kids.map (rowT m)) i with
  | none => rw [ec] at hof; cases hof
  | some c =>
    rw [ec] at hof
    cases ew : mget (wof m.n m.cv) i.form g with
    | none => rw [ew] at hof; cases hof
    | some w =>
      rw [ew] at hof
      have hw := (h.w.nn i.form g w oki.form hg ew).1
      have hv : c + w = v := Option.some.inj hof
      have key : ∀ (ks : List T) (as : List Nat) (c : Int), (∀ x ∈ ks, ∀ v, some v ∈ rowT m x → 0 ≤ v) → osum (partsF (ks.map (rowT m)) as) = some c → 0 ≤ c := by
        intro ks
        induction ks with
        | nil => intro as c _ e; cases e; omega
        | cons x ks ihk =>
          intro as c hx e
          cases as with
          | nil => cases e; omega
          | cons a as =>
            have e' : oadd ((rowT m x).getD a none) (osum (partsF (ks.map (rowT m)) as)) = some c := e
            cases e1 : (rowT m x).getD a none with
            | none => rw [e1] at e'; cases e'
            | some u =>
              cases e3 : osum (partsF (ks.map (rowT m)) as) with
              | none => rw [e1, e3] at e'; cases e'
              | some w2 =>
                rw [e1, e3] at e'
                have e4 : u + w2 = c := Option.some.inj e'
                have h5 := ihk as w2 (fun y hy => hx y (List.mem_cons_of_mem _ hy)) e3
                have h6 : 0 ≤ u := by
                  refine hx x (List.mem_cons_self ..) u ?_
                  rw [List.getD_eq_getElem?_getD] at e1
                  cases e7 : (rowT m x)[a]? with
                  | none => rw [e7] at e1; cases e1
                  | some y =>
                    rw [e7] at e1
                    obtain rfl : y = some u := e1
                    exact List.mem_of_getElem? e7
                omega
      unfold costF at ec
      have ec' : oadd (some i.price) (osum (partsF (t.kids.map (rowT m)) i.args)) = some c := ec
      cases e8 : osum (partsF (t.kids.map (rowT m)) i.args) with
      | none => rw [e8] at ec'; cases ec'
      | some c2 =>
        rw [e8] at ec'
        have e9 : i.price + c2 = c := Option.some.inj ec'
        have := key t.kids i.args c2 (fun x hx => ih x hx (h2 x hx)) e8
        have := oki.p0
        omega
end
/-! ### written trees -/
theorem toT {ar : List Nat} (a2 : ∀ a ∈ ar, a ≤ 2) : ∀ {t : List Nd}, (∀ k d, t[k]? = some d → OkN ar k d) → ∃ ts : List T, ts.length = t.length ∧ (∀ x ∈ ts, x.WF ar) ∧ ∀ m : Mach, rowsF m t = ts.map (rowT m) := by
  intro t
  have key : ∀ n, n ≤ t.length → (∀ k d, t[k]? = some d → OkN ar k d) → ∃ ts : List T, ts.length = n ∧ (∀ x ∈ ts, x.WF ar) ∧ ∀ m : Mach, rowsF m (t.take n) = ts.map (rowT m) := by
    intro n
    induction n with
    | zero => exact fun _ _ => ⟨[], rfl, by simp, fun m => by simp [rowsF]⟩
    | succ n ih =>
      intro hn ok
      obtain ⟨ts, h1, h2, h3⟩ := ih (by omega) ok
      have hd : t[n]? = some t[n] := List.getElem?_eq_getElem (by omega)
      have okd := ok n _ hd
      generalize t[n] = d at hd okd
      have hl := a2 _ (List.mem_of_getElem? okd.op)
      have hal : ∀ a ∈ d.2, a < ts.length := fun a ha => by rw [h1]; exact okd.args a ha
      let ks : List T := d.2.map fun a => ts.getD a (.leaf 0)
      have kk := mkT_kids (op := d.1) (l := ks) (by show (d.2.map _).length ≤ 2; rw [List.length_map]; exact hl)
      have kl : ks.length = d.2.length := List.length_map _
      have kmem : ∀ x ∈ ks, x.WF ar := fun x hx => by
        obtain ⟨a, ha, rfl⟩ := List.mem_map.mp hx
        have := hal a ha
        rw [List.getD_eq_getElem?_getD, List.getElem?_eq_getElem this]
        exact h2 _ (List.getElem_mem _)
      refine ⟨ts ++ [mkT d.1 ks], by simp [h1], fun x hx => ?_, fun m => ?_⟩
      · rcases List.mem_append.mp hx with hx | hx
        · exact h2 x hx
        · rw [List.mem_singleton.mp hx]
          exact wf_iff.mpr ⟨by rw [mkT_op, kk, kl]; exact okd.op, by rw [kk]; exact kmem⟩
      · have e : rowsF m (t.take (n + 1)) = rowsF m (t.take n) ++ [jrow m d.1 (d.2.map fun a => (rowsF m (t.take n)).getD a [])] := by
          rw [List.take_succ, hd]
          unfold rowsF
          rw [List.foldl_append]
          rfl
        rw [e, h3, List.map_append]
        congr 1
        rw [List.map_cons, List.map_nil, rowT_kids, mkT_op, kk, List.map_map]
        congr 2
        refine List.map_congr_left fun a ha => ?_
        have := hal a ha
        simp only [Function.comp]
        rw [List.getD_eq_getElem?_getD, List.getD_eq_getElem?_getD, List.getElem?_map, List.getElem?_eq_getElem this]
        rfl
  intro ok
  have := key t.length (Nat.le_refl _) ok
  rwa [List.take_length] at this
end Cp
end

section
set_option Elab.async false
set_option linter.all false
set_option maxRecDepth 100000
/-! two forms: prices stay near each other if the states are few -/
namespace Cp
def prc (m : Mach) (t : T) (j : Nat) : Option Int := (rowT m t).getD j none
/-- a bounded set of numbers has a greatest -/
theorem has_max (R : Int → Prop) : ∀ (L : List Int), (∀ x, R x → x ∈ L) → (∃ x, R x) → ∃ e, R e ∧ ∀ x, R x → x ≤ e
  | [], h, ⟨x, hx⟩ => by cases h x hx
  | a :: L, h, ⟨x0, hx0⟩ => by
    by_cases hr : ∃ x, R x ∧ x ≠ a
    · obtain ⟨x1, h1, h2⟩ := hr
      obtain ⟨e, he, hm⟩ := has_max (fun x => R x ∧ x ≠ a) L (fun x hx => (List.mem_cons.mp (h x hx.1)).resolve_left hx.2) ⟨x1, h1, h2⟩
      by_cases ha : R a ∧ e < a
      · refine ⟨a, ha.1, fun x hx => ?_⟩
        by_cases hxa : x = a
        · omega
        · have := hm x ⟨hx, hxa⟩
          omega
      · refine ⟨e, he.1, fun x hx => ?_⟩
        by_cases hxa : x = a
        · subst hxa
          by_cases hl : e < x
          · exact absurd ⟨hx, hl⟩ ha
          · omega
        · exact hm x ⟨hx, hxa⟩
    · have only : ∀ x, R x → x = a := fun x hx => Classical.byContradiction fun hn => hr ⟨x, hx, hn⟩
      exact ⟨x0, hx0, fun x hx => by rw [only x hx, only x0 hx0]; exact Int.le_refl _⟩
/-- a smallest tree of a kind -/
theorem has_min (R : T → Prop) : (∃ t, R t) → ∃ t, R t ∧ ∀ u, R u → t.size ≤ u.size := by
  rintro ⟨t0, h0⟩
  have key : ∀ n, ∀ t, R t → t.size ≤ n → ∃ t, R t ∧ ∀ u, R u → t.size ≤ u.size := by
    intro n
    induction n with
    | zero => exact fun t ht hs => ⟨t, ht, fun u _ => by omega⟩
    | succ n ih =>
      intro t ht hs
      by_cases h : ∃ u, R u ∧ u.size < t.size
      · obtain ⟨u, hu, hl⟩ := h
        exact ih u hu (by omega)
      · exact ⟨t, ht, fun u hu => Classical.byContradiction fun hn => h ⟨u, hu, by omega⟩⟩
  exact key t0.size t0 h0 (Nat.le_refl _)
section
variable {m : Mach} {f g : Nat} {Ef Eg : Int} {Tf Tg : T}
def Both (m : Mach) (f g : Nat) (x : T) : Prop := (∃ a, prc m x f = some a) ∧ ∃ b, prc m x g = some b
open Classical in
/-- a child is replaced by the tree of the greatest difference -/
noncomputable def rep (m : Mach) (f g : Nat) (Tf Tg : T) (a : Nat) (x : T) : T := if Both m f g x then (if a = f then Tf else Tg) else x
/-- the greatest differences, and who has them -/
structure Maxs (m : Mach) (f g : Nat) (Ef Eg : Int) (Tf Tg : T) : Prop where
  f2 : f < 2
  g2 : g < 2
  ne : f ≠ g
  wf : Tf.WF m.ar
  wg : Tg.WF m.ar
  af : ∃ a b, prc m Tf f = some a ∧ prc m Tf g = some b ∧ b - a = Ef
  ag : ∃ a b, prc m Tg g = some a ∧ prc m Tg f = some b ∧ b - a = Eg
  mf : ∀ t : T, t.WF m.ar → ∀ a b, prc m t f = some a → prc m t g = some b → b - a ≤ Ef
  mg : ∀ t : T, t.WF m.ar → ∀ a b, prc m t g = some a → prc m t f = some b → b - a ≤ Eg
/-- one child -/
theorem kid1 (h : Maxs m f g Ef Eg Tf Tg) {x : T} (wx : x.WF m.ar) {a : Nat} (ha : a < 2) {u : Int} (hu : prc m x a = some u) : (rep m f g Tf Tg a x).WF m.ar ∧ ∃ u', prc m (rep m f g Tf Tg a x) a = some u' ∧ (∀ c v, c < 2 → prc m x c = some v → ∃ v', prc m (rep m f g Tf Tg a x) c = some v') ∧
    ∀ b v', b < 2 → prc m (rep m f g Tf Tg a x) b = some v' → ∃ v, prc m x b = some v ∧ v - u ≤ v' - u' ∧ (v - u = v' - u' → (v = u ∧ v' = u') ∨ (∃ p q, prc m x f = some p ∧ prc m x g = some q ∧ q - p = Ef) ∨ (v' - u' = Eg ∧ ∃ p q, prc m x g = some p ∧ prc m x f = some q ∧ q - p = Eg)) := by
  have two : ∀ c, c < 2 → c = f ∨ c = g := fun c hc => by have := h.f2; have := h.g2; have := h.ne; omega
  unfold rep
  by_cases hb : Both m f g x
  · rw [if_pos hb]
    obtain ⟨⟨xf, hxf⟩, ⟨xg, hxg⟩⟩ := id hb
    obtain ⟨fa, fb, f1, f2, f3⟩ := h.af
    obtain ⟨ga, gb, g1, g2, g3⟩ := h.ag
    by_cases e : a = f
    · subst e
      rw [if_pos rfl]
      have hu2 : xf = u := by rw [hxf] at hu; exact Option.some.inj hu
      subst hu2
      refine ⟨h.wf, fa, f1, fun c v hc _ => ?_, fun b v' hb2 hv' => ?_⟩
      · rcases two c hc with rfl | rfl
        · exact ⟨fa, f1⟩
        · exact ⟨fb, f2⟩
      · rcases two b hb2 with rfl | rfl
        · rw [f1] at hv'
          cases hv'
          exact ⟨xf, hxf, by omega, fun _ => .inl ⟨rfl, rfl⟩⟩
        · rw [f2] at hv'
          cases hv'
          have := h.mf x wx xf xg hxf hxg
          exact ⟨xg, hxg, by omega, fun e => .inr (.inl ⟨xf, xg, hxf, hxg, by omega⟩)⟩
    · have e2 : a = g := (two a ha).resolve_left e
      subst e2
      rw [if_neg e]
      have hu2 : xg = u := by rw [hxg] at hu; exact Option.some.inj hu
      subst hu2
      refine ⟨h.wg, ga, g1, fun c v hc _ => ?_, fun b v' hb2 hv' => ?_⟩
      · rcases two c hc with rfl | rfl
        · exact ⟨gb, g2⟩
        · exact ⟨ga, g1⟩
      · rcases two b hb2 with rfl | rfl
        · rw [g2] at hv'
          cases hv'
          have := h.mg x wx xg xf hxg hxf
          exact ⟨xf, hxf, by omega, fun e => .inr (.inr ⟨by omega, xg, xf, hxg, hxf, by omega⟩)⟩
        · rw [g1] at hv'
          cases hv'
          exact ⟨xg, hxg, by omega, fun _ => .inl ⟨rfl, rfl⟩⟩
  · rw [if_neg hb]
    refine ⟨wx, u, hu, fun c v _ hv => ⟨v, hv⟩, fun b v' hb2 hv' => ⟨v', hv', by omega, fun _ => .inl ?_⟩⟩
    have : b = a := by
      by_cases e : b = a
      · exact e
      · exfalso
        apply hb
        rcases two a ha with rfl | rfl
        · rcases two b hb2 with rfl | rfl
          · exact absurd rfl e
          · exact ⟨⟨u, hu⟩, ⟨v', hv'⟩⟩
        · rcases two b hb2 with rfl | rfl
          · exact ⟨⟨v', hv'⟩, ⟨u, hu⟩⟩
          · exact absurd rfl e
    subst this
    rw [hu] at hv'
    cases hv'
    exact ⟨rfl, rfl⟩
/-- the sum over the children -/
def psum (m : Mach) (ts : List T) (as : List Nat) : Option Int := osum (partsF (ts.map (rowT m)) as)
theorem psum_nil (m : Mach) (as : List Nat) : psum m [] as = some 0 := by cases as <;> rfl
theorem psum_cons (m : Mach) (x : T) (ts : List T) (a : Nat) (as : List Nat) : psum m (x :: ts) (a :: as) = oadd (prc m x a) (psum m ts as) := rfl
theorem oadd_some {x y : Option Int} {v : Int} (h : oadd x y = some v) : ∃ a b, x = some a ∧ y = some b ∧ a + b = v := by
  cases x with
  | none => cases h
  | some a =>
    cases y with
    | none => cases h
    | some b => exact ⟨a, b, rfl, rfl, Option.some.inj h⟩
theorem kids (h : Maxs m f g Ef Eg Tf Tg) : ∀ {ts : List T} {as : List Nat}, as.length = ts.length → (∀ x ∈ ts, x.WF m.ar) → (∀ a ∈ as, a < 2) → ∀ {A : Int}, psum m ts as = some A →
    (∀ x ∈ List.zipWith (rep m f g Tf Tg) as ts, x.WF m.ar) ∧ ∃ A', psum m (List.zipWith (rep m f g Tf Tg) as ts) as = some A' ∧ (∀ cs : List Nat, cs.length = ts.length → (∀ c ∈ cs, c < 2) → ∀ v, psum m ts cs = some v → ∃ v', psum m (List.zipWith (rep m f g Tf Tg) as ts) cs = some v') ∧
      ∀ bs : List Nat, bs.length = ts.length → (∀ b ∈ bs, b < 2) → ∀ B', psum m (List.zipWith (rep m f g Tf Tg) as ts) bs = some B' → ∃ B, psum m ts bs = some B ∧ B - A ≤ B' - A' ∧ (B - A = B' - A' → (∃ x ∈ ts, ∃ p q, prc m x f = some p ∧ prc m x g = some q ∧ q - p = Ef) ∨ ∃ k : Nat, k ≤ ts.length ∧ B' - A' = k * Eg ∧ (0 < k → ∃ x ∈ ts, ∃ p q, prc m x g = some p ∧ prc m x f = some q ∧ q - p = Eg))
  | [], as, hl, _, _, A, hA => by
    rw [psum_nil] at hA
    cases hA
    have e : List.zipWith (rep m f g Tf Tg) as [] = [] := by simp
    rw [e]
    refine ⟨by simp, 0, psum_nil _ _, fun cs _ _ v _ => ⟨0, psum_nil _ _⟩, fun bs _ _ B' hB' => ?_⟩
    rw [psum_nil] at hB'
    cases hB'
    exact ⟨0, psum_nil _ _, by omega, fun _ => .inr ⟨0, by simp, by simp, by omega⟩⟩
  | x :: ts, [], hl, _, _, _, _ => by simp at hl
  | x :: ts, a :: as, hl, hwf, has, A, hA => by
    rw [psum_cons] at hA
    obtain ⟨u, A1, hu, hA1, rfl⟩ := oadd_some hA
    obtain ⟨w1, u', hu', c1, b1⟩ := kid1 h (hwf x (List.mem_cons_self ..)) (has a (List.mem_cons_self ..)) hu
    obtain ⟨w2, A', hA', c2, b2⟩ := kids h (by simpa using hl) (fun y hy => hwf y (List.mem_cons_of_mem _ hy)) (fun y hy => has y (List.mem_cons_of_mem _ hy)) hA1
    rw [List.zipWith_cons_cons]
    refine ⟨fun y hy => ?_, u' + A', by rw [psum_cons, hu', hA']; rfl, fun cs hcl hcs v hv => ?_, fun bs hbl hbs B' hB' => ?_⟩
    · rcases List.mem_cons.mp hy with rfl | hy
      · exact w1
      · exact w2 y hy
    · match cs, hcl with
      | c :: cs, hcl =>
        rw [psum_cons] at hv
        obtain ⟨v1, v2, e1, e2, _⟩ := oadd_some hv
        obtain ⟨v1', g1⟩ := c1 c v1 (hcs c (List.mem_cons_self ..)) e1
        obtain ⟨v2', g2⟩ := c2 cs (by simpa using hcl) (fun y hy => hcs y (List.mem_cons_of_mem _ hy)) v2 e2
        exact ⟨v1' + v2', by rw [psum_cons, g1, g2]; rfl⟩
    · match bs, hbl with
      | b :: bs, hbl =>
        rw [psum_cons] at hB'
        obtain ⟨v1', B1', e1, e2, rfl⟩ := oadd_some hB'
        obtain ⟨v1, g1, g2, g3⟩ := b1 b v1' (hbs b (List.mem_cons_self ..)) e1
        obtain ⟨B1, k1, k2, k3⟩ := b2 bs (by simpa using hbl) (fun y hy => hbs y (List.mem_cons_of_mem _ hy)) B1' e2
        refine ⟨v1 + B1, by rw [psum_cons, g1, k1]; rfl, by omega, fun eq => ?_⟩
        rcases k3 (by omega) with ⟨y, hy, r⟩ | ⟨k, q1, q2, q3⟩
        · exact .inl ⟨y, List.mem_cons_of_mem _ hy, r⟩
        · rcases g3 (by omega) with ⟨r1, r2⟩ | r | ⟨r1, r2⟩
          · refine .inr ⟨k, by rw [List.length_cons]; omega, by omega, fun hk => ?_⟩
            obtain ⟨y, hy, r⟩ := q3 hk
            exact ⟨y, List.mem_cons_of_mem _ hy, r⟩
          · exact .inl ⟨x, List.mem_cons_self .., r⟩
          · refine .inr ⟨k + 1, by rw [List.length_cons]; omega, ?_, fun _ => ⟨x, List.mem_cons_self .., r2⟩⟩
            have : ((k + 1 : Nat) : Int) * Eg = (k : Int) * Eg + Eg := by rw [Int.natCast_add, Int.add_mul]; simp
            rw [this]
            omega
/-- an instruction at a node -/
theorem offer_some {t : T} {j : Nat} {i : Ins} {v : Int} (h : offer m (t.kids.map (rowT m)) j i = some v) : ∃ A w, psum m t.kids i.args = some A ∧ mget (wof m.n m.cv) i.form j = some w ∧ v = i.price + w + A := by
  unfold offer costF at h
  obtain ⟨c, w, h1, h2, h3⟩ := oadd_some h
  have h1' : oadd (some i.price) (psum m t.kids i.args) = some c := h1
  obtain ⟨p, A, e1, e2, e3⟩ := oadd_some h1'
  cases e1
  exact ⟨A, w, e2, h2, by omega⟩
theorem offer_of {t : T} {j : Nat} {i : Ins} {A w : Int} (h1 : psum m t.kids i.args = some A) (h2 : mget (wof m.n m.cv) i.form j = some w) : offer m (t.kids.map (rowT m)) j i = some (i.price + w + A) := by
  unfold offer costF
  rw [h2]
  have : osum (some i.price :: partsF (t.kids.map (rowT m)) i.args) = some (i.price + A) := by
    show oadd (some i.price) (psum m t.kids i.args) = _
    rw [h1]
    rfl
  rw [this]
  show some (i.price + A + w) = _
  congr 1
  omega
theorem prc_att (mo : MOk m) {t : T} {j : Nat} (hj : j < m.n) {v : Int} (h : prc m t j = some v) : ∃ i ∈ m.ins, i.op = t.op ∧ offer m (t.kids.map (rowT m)) j i = some v := by
  unfold prc at h
  rw [rowT_kids] at h
  exact jrow_att mo.form mo.w hj h
theorem prc_le (mo : MOk m) {t : T} {j : Nat} (hj : j < m.n) {i : Ins} (hi : i ∈ m.ins) (ho : i.op = t.op) {u : Int} (hu : offer m (t.kids.map (rowT m)) j i = some u) : ∃ v, prc m t j = some v ∧ v ≤ u := by
  unfold prc
  rw [rowT_kids]
  exact jrow_le mo.form mo.w hj hi ho hu
theorem price_gp {i : Ins} (hi : i ∈ m.ins) : i.price ≤ gpF m :=
  (lmx_mem (ns := [0] ++ m.ins.map (·.price) ++ m.cv.map (·.price)) (by simp)).2 _ (by
    rw [List.mem_append, List.mem_append]
    exact .inl (.inr (List.mem_map.mpr ⟨i, hi, rfl⟩)))
theorem cv_gp {c : Cv} (hc : c ∈ m.cv) : c.price ≤ gpF m :=
  (lmx_mem (ns := [0] ++ m.ins.map (·.price) ++ m.cv.map (·.price)) (by simp)).2 _ (by
    rw [List.mem_append]
    exact .inr (List.mem_map.mpr ⟨c, hc, rfl⟩))
theorem gp_nn : 0 ≤ gpF m :=
  (lmx_mem (ns := [0] ++ m.ins.map (·.price) ++ m.cv.map (·.price)) (by simp)).2 0 (by simp)
/-- no conversion joins them if they are far from each other -/
theorem no_way (mo : MOk m) (hn : m.n = 2) (h : Maxs m f g Ef Eg Tf Tg) (hE : gpF m < Ef) : mget (wof m.n m.cv) f g = none := by
  cases e : mget (wof m.n m.cv) f g with
  | none => rfl
  | some w =>
    exfalso
    have hf := h.f2
    have hg := h.g2
    obtain ⟨x, hx, hw⟩ := mo.w.two hn f g w (by omega) (by omega) h.ne e
    have hxp := cv_gp (m := m) hx
    obtain ⟨a, b, h1, h2, h3⟩ := h.af
    obtain ⟨i, hi, ho, hof⟩ := prc_att mo (by omega) h1
    obtain ⟨A, w1, e1, e2, e3⟩ := offer_some hof
    have hif := mo.form i hi
    have w0 := (mo.w.nn f g w (by omega) (by omega) e).1
    have hfor : i.form = f ∨ i.form = g := by have := h.ne; omega
    have hw2 : ∃ w2, mget (wof m.n m.cv) i.form g = some w2 ∧ w2 ≤ w1 + w := by
      rcases hfor with r | r
      · rw [r] at e2 ⊢
        rw [mo.w.dg f (by omega)] at e2
        cases e2
        exact ⟨w, e, by omega⟩
      · rw [r] at e2 ⊢
        exact ⟨0, mo.w.dg g (by omega), by have := (mo.w.nn g f w1 (by omega) (by omega) e2).1; omega⟩
    obtain ⟨w2, hw2, hw3⟩ := hw2
    obtain ⟨v, hv, hv2⟩ := prc_le mo (t := Tf) (j := g) (by omega) hi ho (offer_of e1 hw2)
    rw [h2] at hv
    cases hv
    omega
/-- a tree of the greatest difference, with no such child, has a child of the other one -/
theorem descend (mo : MOk m) (hn : m.n = 2) (h : Maxs m f g Ef Eg Tf Tg) (hE : gpF m < Ef) {t : T} (wt : t.WF m.ar) (ht : ∃ a b, prc m t f = some a ∧ prc m t g = some b ∧ b - a = Ef) (hk : ∀ x ∈ t.kids, ∀ a b, prc m x f = some a → prc m x g = some b → b - a ≠ Ef) :
    (∃ x ∈ t.kids, ∃ a b, prc m x g = some a ∧ prc m x f = some b ∧ b - a = Eg) ∧ Ef ≤ gpF m + 2 * Eg := by
  have hf := h.f2
  have hg := h.g2
  obtain ⟨a, b, ha, hb, hab⟩ := ht
  obtain ⟨hop, hkw⟩ := wf_iff.mp wt
  have kl : t.kids.length ≤ 2 := by cases t <;> simp [T.kids]
  obtain ⟨I, hI, hIo, hIf⟩ := prc_att mo (by omega) ha
  obtain ⟨A, wI, eA, eI, rfl⟩ := offer_some hIf
  obtain ⟨J0, hJ0, hJ0o, hJ0f⟩ := prc_att mo (by omega) hb
  obtain ⟨B0, wJ0, eB0, eJ0, _⟩ := offer_some hJ0f
  have ial : ∀ i ∈ m.ins, i.op = t.op → i.args.length = t.kids.length ∧ ∀ c ∈ i.args, c < 2 := fun i hi ho => by
    have h1 := (mo.ins i hi).op
    rw [ho, hop] at h1
    exact ⟨(Option.some.inj h1).symm, fun c hc => by have := (mo.ins i hi).args c hc; omega⟩
  obtain ⟨w1, A', hA', hc, hB⟩ := kids h (ial I hI hIo).1 hkw (ial I hI hIo).2 eA
  -- the tree of replaced children
  let ts' := List.zipWith (rep m f g Tf Tg) I.args t.kids
  have tl : ts'.length = t.kids.length := by show (List.zipWith _ _ _).length = _; rw [List.length_zipWith, (ial I hI hIo).1]; omega
  have kk := mkT_kids (op := t.op) (l := ts') (by rw [tl]; exact kl)
  have wf' : (mkT t.op ts').WF m.ar := wf_iff.mpr ⟨by rw [mkT_op, kk, tl]; exact hop, by rw [kk]; exact w1⟩
  have opf : ∀ {i : Ins}, i.op = t.op → i.op = (mkT t.op ts').op := fun e => by rw [mkT_op]; exact e
  obtain ⟨pf, hpf, hpfl⟩ := prc_le mo (t := mkT t.op ts') (j := f) (by omega) hI (opf hIo) (offer_of (by rw [kk]; exact hA') eI)
  obtain ⟨B0', hB0'⟩ := hc J0.args (ial J0 hJ0 hJ0o).1 (ial J0 hJ0 hJ0o).2 B0 eB0
  obtain ⟨pg, hpg, _⟩ := prc_le mo (t := mkT t.op ts') (j := g) (by omega) hJ0 (opf hJ0o) (offer_of (by rw [kk]; exact hB0') eJ0)
  obtain ⟨J, hJ, hJo, hJf⟩ := prc_att mo (by omega) hpg
  rw [mkT_op] at hJo
  obtain ⟨B', wJ, eB', eJ, hpg2⟩ := offer_some hJf
  rw [kk] at eB'
  obtain ⟨B, eB, hle, heq⟩ := hB J.args (ial J hJ hJo).1 (ial J hJ hJo).2 B' eB'
  obtain ⟨v, hv, hvl⟩ := prc_le mo (t := t) (j := g) (by omega) hJ hJo (offer_of eB eJ)
  rw [hb] at hv
  cases hv
  have hmax := h.mf _ wf' pf pg hpf hpg
  -- the way of J is none
  have hJform : J.form = g := by
    have h1 := mo.form J hJ
    have h2 : J.form = f ∨ J.form = g := by have := h.ne; omega
    rcases h2 with r | r
    · rw [r, no_way mo hn h hE] at eJ
      cases eJ
    · exact r
  have hwJ : wJ = 0 := by
    rw [hJform, mo.w.dg g (by omega)] at eJ
    cases eJ
    rfl
  have hwI := (mo.w.nn I.form f wI (mo.form I hI) (by omega) eI).1
  have hpI := (mo.ins I hI).p0
  have hpJ := price_gp (m := m) hJ
  rcases heq (by omega) with ⟨x, hx, p, q, e1, e2, e3⟩ | ⟨k, hk1, hk2, hk3⟩
  · exact absurd e3 (hk x hx p q e1 e2)
  · have hk0 : 0 < k := by
      rcases Nat.eq_zero_or_pos k with e | e
      · subst e
        simp at hk2
        omega
      · exact e
    refine ⟨hk3 hk0, ?_⟩
    have hk12 : k = 1 ∨ k = 2 := by omega
    rcases hk12 with rfl | rfl
    · simp at hk2
      omega
    · have : ((2 : Nat) : Int) * Eg = 2 * Eg := rfl
      omega
/-- a far difference cannot be the greatest -/
theorem not_far (mo : MOk m) (hn : m.n = 2) (h : Maxs m f g Ef Eg Tf Tg) : Ef ≤ 3 * gpF m := by
  apply Classical.byContradiction
  intro hcon
  have P0 := gp_nn (m := m)
  have hE : gpF m < Ef := by omega
  have h' : Maxs m g f Eg Ef Tg Tf := ⟨h.g2, h.f2, fun e => h.ne e.symm, h.wg, h.wf, h.ag, h.af, h.mg, h.mf⟩
  obtain ⟨t, ⟨wt, at_⟩, mint⟩ := has_min (fun t => t.WF m.ar ∧ ∃ a b, prc m t f = some a ∧ prc m t g = some b ∧ b - a = Ef) ⟨Tf, h.wf, h.af⟩
  obtain ⟨u, ⟨wu, au⟩, minu⟩ := has_min (fun t => t.WF m.ar ∧ ∃ a b, prc m t g = some a ∧ prc m t f = some b ∧ b - a = Eg) ⟨Tg, h.wg, h.ag⟩
  have kt : ∀ x ∈ t.kids, ∀ a b, prc m x f = some a → prc m x g = some b → b - a ≠ Ef := fun x hx a b h1 h2 h3 => by
    have := mint x ⟨(wf_iff.mp wt).2 x hx, a, b, h1, h2, h3⟩
    have := kid_size hx
    omega
  have ku : ∀ x ∈ u.kids, ∀ a b, prc m x g = some a → prc m x f = some b → b - a ≠ Eg := fun x hx a b h1 h2 h3 => by
    have := minu x ⟨(wf_iff.mp wu).2 x hx, a, b, h1, h2, h3⟩
    have := kid_size hx
    omega
  obtain ⟨⟨x, hx, ax⟩, hle⟩ := descend mo hn h hE wt at_ kt
  have hE2 : gpF m < Eg := by omega
  obtain ⟨⟨y, hy, ay⟩, _⟩ := descend mo hn h' hE2 wu au ku
  have s1 := minu x ⟨(wf_iff.mp wt).2 x hx, ax⟩
  have s2 := mint y ⟨(wf_iff.mp wu).2 y hy, ay⟩
  have s3 := kid_size hx
  have s4 := kid_size hy
  omega
end
/-- two forms, finitely many states: the difference is at most thrice the greatest price -/
theorem near {m : Mach} (mo : MOk m) (hn : m.n = 2) (fin : ∃ ss : List Row, ∀ t : T, t.WF m.ar → stT m t ∈ ss) {t : T} (wt : t.WF m.ar) {f g : Nat} (hf : f < 2) (hg : g < 2) (hfg : f ≠ g) {a b : Int} (ha : prc m t f = some a) (hb : prc m t g = some b) : b - a ≤ 3 * gpF m := by
  obtain ⟨ss, hss⟩ := fin
  have inL : ∀ f g, ∀ x, (∃ t : T, t.WF m.ar ∧ ∃ a b, prc m t f = some a ∧ prc m t g = some b ∧ b - a = x) → x ∈ ss.map fun s => (s.getD g none).getD 0 - (s.getD f none).getD 0 := by
    rintro f g x ⟨t, wt, a, b, h1, h2, rfl⟩
    refine List.mem_map.mpr ⟨_, hss t wt, ?_⟩
    unfold prc at h1 h2
    have hb : ∃ k, baseF (rowT m t) = some k := by
      cases e : baseF (rowT m t) with
      | some k => exact ⟨k, rfl⟩
      | none => rw [(base_none.mp e).at] at h1; cases h1
    obtain ⟨k, hk⟩ := hb
    unfold stT
    rw [(rel_shift hk).2, shift_getD, shift_getD, h1, h2]
    simp
    omega
  obtain ⟨Ef, ⟨Tf, wf, af⟩, mf⟩ := has_max (fun x => ∃ t : T, t.WF m.ar ∧ ∃ a b, prc m t f = some a ∧ prc m t g = some b ∧ b - a = x) _ (inL f g) ⟨_, t, wt, a, b, ha, hb, rfl⟩
  obtain ⟨Eg, ⟨Tg, wg, ag⟩, mg⟩ := has_max (fun x => ∃ t : T, t.WF m.ar ∧ ∃ a b, prc m t g = some a ∧ prc m t f = some b ∧ b - a = x) _ (inL g f) ⟨_, t, wt, b, a, hb, ha, rfl⟩
  have h : Maxs m f g Ef Eg Tf Tg := ⟨hf, hg, hfg, wf, wg, af, ag, fun t wt a b h1 h2 => mf _ ⟨t, wt, a, b, h1, h2, rfl⟩, fun t wt a b h1 h2 => mg _ ⟨t, wt, a, b, h1, h2, rfl⟩⟩
  have h1 := not_far mo hn h
  have h2 := h.mf t wt a b ha hb
  omega
end Cp
end

section
set_option Elab.async false
set_option linter.all false
set_option maxRecDepth 100000
/-! the parts are the interchangeable -/
namespace Cp
def valI (ss : List Row) (mv : List (List Mv)) : List Nat → Nat → Option Int
  | [], i => goalO ss i
  | s :: C, i => oadd (mvAt mv s i).2 (valI ss mv C (mvAt mv s i).1)
/-- steps that are there -/
def VC (mv : List (List Mv)) (C : List Nat) : Prop := ∀ s ∈ C, s < mv.length
def EqK (ss : List Row) (mv : List (List Mv)) (k : Int) (i j : Nat) : Prop := ∀ C, VC mv C → valI ss mv C j = oadd (valI ss mv C i) (some k)
def EqI (ss : List Row) (mv : List (List Mv)) (i j : Nat) : Prop := ∃ k, EqK ss mv k i j
theorem rest_det {ss : List Row} {mv : List (List Mv)} {fs : Fs} {d i : Nat} {r : Int} (h : RestIs ss mv fs d i r) : ∀ {d' : Nat} {r' : Int}, RestIs ss mv fs d' i r' → r = r' := by
  induction h with
  | goal h1 h2 =>
    intro d' r' h'
    cases h' with
    | goal g1 g2 => rw [h2] at g2; exact Option.some.inj g2
    | step g1 g2 g3 => rw [h1] at g1; cases g1
  | step h1 h2 _ ih =>
    intro d' r' h'
    cases h' with
    | goal g1 g2 => rw [h1] at g1; cases g1
    | step g1 g2 g3 =>
      rw [h1] at g1
      cases g1
      rw [h2] at g2
      cases g2
      rw [ih g3]
theorem restOf_eq {ss : List Row} {mv : List (List Mv)} {fs : Fs} {d i : Nat} {r : Int} (h : RestIs ss mv fs d i r) : restOf ss mv fs i = r := by
  obtain ⟨d', h'⟩ := restOf_is h
  exact rest_det h' h
theorem rget_rs (ss : List Row) (mv : List (List Mv)) (fs : Fs) : ∀ (gs : Fs) (i : Nat), rget (gs.map fun p => (p.1, restOf ss mv fs p.1)) i = if inF gs i then some (restOf ss mv fs i) else none
  | [], i => rfl
  | p :: gs, i => by
    have ih := rget_rs ss mv fs gs i
    unfold rget at ih ⊢
    rw [List.map_cons, List.find?_cons]
    show _ = if (decide (p.1 = i) || inF gs i) = true then _ else _
    by_cases e : p.1 = i
    · simp [e]
    · simp only [e, decide_false, Bool.false_or]
      exact ih
section
variable {ss : List Row} {mv : List (List Mv)} {n : Nat}
/-- what is known of the moves -/
structure Mvs (ss : List Row) (mv : List (List Mv)) (n : Nat) : Prop where
  lt : ∀ s i, s < mv.length → i < n → (mvAt mv s i).1 < n
  gr : GrowOk ss mv n
theorem rest_val {fs : Fs} (hfs : FsOk n mv.length fs) {d i : Nat} {r : Int} (h : RestIs ss mv fs d i r) : ∃ C, VC mv C ∧ valI ss mv C i = some r := by
  induction h with
  | goal h1 h2 => exact ⟨[], (fun s hs => (by cases hs)), h2⟩
  | @step i s d to w r h1 h2 _ ih =>
    obtain ⟨C, hC, e⟩ := ih
    have hs := hfs.st _ (fget_mem h1) s rfl
    refine ⟨s :: C, fun x hx => ?_, ?_⟩
    · rcases List.mem_cons.mp hx with rfl | hx
      · exact hs
      · exact hC x hx
    · show oadd (mvAt mv s i).2 (valI ss mv C (mvAt mv s i).1) = _
      rw [h2, e]
      rfl
theorem fs0_sub : ∀ k i, inF (fs0 ss n) i = true → inF (fsK ss mv n k) i = true
  | 0, i, h => h
  | k + 1, i, h => by
    have := fs0_sub k i h
    rw [inF_iff] at this ⊢
    show i ∈ (fsK ss mv n k ++ _).map _
    rw [List.map_append]
    exact List.mem_append_left _ this
theorem fs0_in {i : Nat} (hi : i < n) : inF (fs0 ss n) i = (goalO ss i).isSome := by
  rw [Bool.eq_iff_iff, inF_iff]
  unfold fs0
  rw [List.mem_map]
  constructor
  · rintro ⟨p, hp, rfl⟩
    rw [List.mem_filterMap] at hp
    obtain ⟨j, hj, e⟩ := hp
    split at e
    · next h => cases e; exact h
    · cases e
  · intro h
    refine ⟨(i, none), List.mem_filterMap.mpr ⟨i, List.mem_range.mpr hi, ?_⟩, rfl⟩
    rw [if_pos h]
/-- who reaches a goal is found -/
theorem val_in (h : Mvs ss mv n) {k : Nat} (hf : fsL mv (fsK ss mv n k) n = []) : ∀ (C : List Nat) (i : Nat), i < n → VC mv C → (valI ss mv C i).isSome = true → inF (fsK ss mv n k) i = true
  | [], i, hi, _, hv => fs0_sub k i (by rw [fs0_in hi]; exact hv)
  | s :: C, i, hi, hC, hv => by
    have hs := hC s (List.mem_cons_self ..)
    have hto := h.lt s i hs hi
    have hv2 : (oadd (mvAt mv s i).2 (valI ss mv C (mvAt mv s i).1)).isSome = true := hv
    have hv3 : (valI ss mv C (mvAt mv s i).1).isSome = true := by
      cases e1 : (mvAt mv s i).2 <;> cases e2 : valI ss mv C (mvAt mv s i).1 <;> rw [e1, e2] at hv2 <;> first | rfl | cases hv2
    have hin := val_in h hf C _ hto (fun x hx => hC x (List.mem_cons_of_mem _ hx)) hv3
    cases q : inF (fsK ss mv n k) i with
    | true => rfl
    | false =>
      exfalso
      have hst : s ∈ stL mv (fsK ss mv n k) i mv.length := by
        unfold stL
        rw [List.mem_filter, List.mem_range]
        exact ⟨hs, hin⟩
      have hne : fsStep mv (fsK ss mv n k) i ≠ [] := by
        unfold fsStep
        rw [if_neg (by rw [q]; exact Bool.false_ne_true)]
        cases e : stL mv (fsK ss mv n k) i mv.length with
        | nil => rw [e] at hst; cases hst
        | cons a l => simp
      apply hne
      have : ∀ p ∈ fsStep mv (fsK ss mv n k) i, p ∈ fsL mv (fsK ss mv n k) n := fun p hp => by
        unfold fsL
        rw [List.mem_flatMap]
        exact ⟨i, List.mem_range.mpr hi, hp⟩
      rw [hf] at this
      cases e : fsStep mv (fsK ss mv n k) i with
      | nil => rfl
      | cons p l => have := this p (by rw [e]; exact List.mem_cons_self ..); cases this
theorem val_out (h : Mvs ss mv n) {k : Nat} (hf : fsL mv (fsK ss mv n k) n = []) {C : List Nat} {i : Nat} (hi : i < n) (hC : VC mv C) (q : inF (fsK ss mv n k) i = false) : valI ss mv C i = none := by
  cases e : valI ss mv C i with
  | none => rfl
  | some v =>
    have := val_in h hf C i hi hC (by rw [e]; rfl)
    rw [q] at this
    cases this
theorem in_val (h : Mvs ss mv n) {k i : Nat} (hi : inF (fsK ss mv n k) i = true) : ∃ d r C, RestIs ss mv (fsK ss mv n k) d i r ∧ VC mv C ∧ valI ss mv C i = some r := by
  obtain ⟨p, hp, rfl⟩ := List.mem_map.mp (inF_iff.mp hi)
  obtain ⟨d, r, hr⟩ := rest_ex h.gr k p hp
  obtain ⟨C, hC, e⟩ := rest_val (fsK_fs ss mv n k) hr
  exact ⟨d, r, C, hr, hC, e⟩
theorem oadd_k {x y : Option Int} {k : Int} (h : y = oadd x (some k)) : x = oadd y (some (-k)) := by
  rw [h]
  cases x with
  | none => rfl
  | some v => show some v = some (v + k + -k); congr 1; omega
theorem EqI.symm {i j : Nat} (h : EqI ss mv i j) : EqI ss mv j i := by
  obtain ⟨k, h⟩ := h
  exact ⟨-k, fun C hC => oadd_k (h C hC)⟩
theorem EqI.in_ (h : Mvs ss mv n) {k : Nat} (hf : fsL mv (fsK ss mv n k) n = []) {i j : Nat} (hi : i < n) (hj : j < n) (e : EqI ss mv i j) : inF (fsK ss mv n k) i = inF (fsK ss mv n k) j := by
  have one : ∀ i j, i < n → j < n → EqI ss mv i j → inF (fsK ss mv n k) i = true → inF (fsK ss mv n k) j = true := fun i j hi hj ⟨c, e⟩ q => by
    obtain ⟨d, r, C, _, hC, ev⟩ := in_val h q
    refine val_in h hf C j hj hC ?_
    rw [e C hC, ev]
    rfl
  rw [Bool.eq_iff_iff]
  exact ⟨one i j hi hj e, one j i hj hi e.symm⟩
/-- what the steps lead to is interchangeable too -/
theorem EqK.step (h : Mvs ss mv n) {k : Nat} (hf : fsL mv (fsK ss mv n k) n = []) {i j : Nat} (hi : i < n) (hj : j < n) {c : Int} (e : EqK ss mv c i j) {s : Nat} (hs : s < mv.length) :
    (∃ a b, (mvAt mv s i).2 = some a ∧ (mvAt mv s j).2 = some b ∧ EqK ss mv (c + a - b) (mvAt mv s i).1 (mvAt mv s j).1) ∨ (inF (fsK ss mv n k) (mvAt mv s i).1 = false ∧ inF (fsK ss mv n k) (mvAt mv s j).1 = false ∧ EqK ss mv 0 (mvAt mv s i).1 (mvAt mv s j).1) := by
  have l1 := h.lt s i hs hi
  have l2 := h.lt s j hs hj
  have ev : ∀ C, VC mv C → oadd (mvAt mv s j).2 (valI ss mv C (mvAt mv s j).1) = oadd (oadd (mvAt mv s i).2 (valI ss mv C (mvAt mv s i).1)) (some c) := fun C hC => e (s :: C) fun x hx => by
    rcases List.mem_cons.mp hx with rfl | hx
    · exact hs
    · exact hC x hx
  have dead : inF (fsK ss mv n k) (mvAt mv s i).1 = false → inF (fsK ss mv n k) (mvAt mv s j).1 = false → EqK ss mv 0 (mvAt mv s i).1 (mvAt mv s j).1 := fun q1 q2 C hC => by
    rw [val_out h hf l1 hC q1, val_out h hf l2 hC q2]
    rfl
  cases ea : (mvAt mv s i).2 with
  | none =>
    have q1 : inF (fsK ss mv n k) (mvAt mv s i).1 = false := by
      cases q : inF (fsK ss mv n k) (mvAt mv s i).1 with
      | false => rfl
      | true =>
        obtain ⟨w, hw⟩ := h.gr k s i hs hi q
        rw [ea] at hw
        cases hw
    have q2 : inF (fsK ss mv n k) (mvAt mv s j).1 = false := by
      cases q : inF (fsK ss mv n k) (mvAt mv s j).1 with
      | false => rfl
      | true =>
        exfalso
        obtain ⟨w, hw⟩ := h.gr k s j hs hj q
        obtain ⟨d, r, C, _, hC, e2⟩ := in_val h q
        have := ev C hC
        rw [ea, hw, e2] at this
        cases this
    exact .inr ⟨q1, q2, dead q1 q2⟩
  | some a =>
    cases eb : (mvAt mv s j).2 with
    | none =>
      have q2 : inF (fsK ss mv n k) (mvAt mv s j).1 = false := by
        cases q : inF (fsK ss mv n k) (mvAt mv s j).1 with
        | false => rfl
        | true =>
          obtain ⟨w, hw⟩ := h.gr k s j hs hj q
          rw [eb] at hw
          cases hw
      have q1 : inF (fsK ss mv n k) (mvAt mv s i).1 = false := by
        cases q : inF (fsK ss mv n k) (mvAt mv s i).1 with
        | false => rfl
        | true =>
          exfalso
          obtain ⟨d, r, C, _, hC, e2⟩ := in_val h q
          have := ev C hC
          rw [ea, eb, e2] at this
          cases this
      exact .inr ⟨q1, q2, dead q1 q2⟩
    | some b =>
      refine .inl ⟨a, b, rfl, rfl, fun C hC => ?_⟩
      have := ev C hC
      rw [ea, eb] at this
      cases e1 : valI ss mv C (mvAt mv s i).1 with
      | none =>
        cases e2 : valI ss mv C (mvAt mv s j).1 with
        | none => rfl
        | some v => rw [e1, e2] at this; cases this
      | some u =>
        cases e2 : valI ss mv C (mvAt mv s j).1 with
        | none => rw [e1, e2] at this; cases this
        | some v =>
          rw [e1, e2] at this
          have h3 : b + v = a + u + c := Option.some.inj this
          show some v = some (u + (c + a - b))
          congr 1
          omega
theorem EqK.stepI (h : Mvs ss mv n) {k : Nat} (hf : fsL mv (fsK ss mv n k) n = []) {i j : Nat} (hi : i < n) (hj : j < n) {c : Int} (e : EqK ss mv c i j) {s : Nat} (hs : s < mv.length) : EqI ss mv (mvAt mv s i).1 (mvAt mv s j).1 := by
  rcases e.step h hf hi hj hs with ⟨a, b, _, _, e⟩ | ⟨_, _, e⟩
  · exact ⟨_, e⟩
  · exact ⟨_, e⟩
/-- entries of a turn -/
theorem fget_L {fs : Fs} : ∀ {k i : Nat}, fget (fsL mv fs k) i = if i < k then (if inF fs i then none else (stL mv fs i mv.length).head?.map some) else none
  | 0, i => by simp [fsL, fget]
  | k + 1, i => by
    have ih := fget_L (fs := fs) (k := k) (i := i)
    have e : fsL mv fs (k + 1) = fsL mv fs k ++ fsStep mv fs k := by
      unfold fsL
      rw [List.range_succ, List.flatMap_append]
      simp
    have e2 : fget (fsL mv fs (k + 1)) i = (fget (fsL mv fs k) i).or (fget (fsStep mv fs k) i) := by
      rw [e]
      unfold fget
      rw [List.find?_append]
      cases (fsL mv fs k).find? (fun p => decide (p.1 = i)) <;> simp
    rw [e2, ih]
    by_cases h : i < k
    · rw [if_pos h, if_pos (show i < k + 1 by omega)]
      have e3 : fget (fsStep mv fs k) i = none := by
        unfold fget
        rw [List.find?_eq_none.mpr fun p hp => ?_]
        · rfl
        · have := (fsStep_mem hp).1
          simp
          omega
      rw [e3]
      simp
    · rw [if_neg h]
      by_cases h2 : i = k
      · subst h2
        rw [if_pos (Nat.lt_succ_self i)]
        unfold fsStep
        by_cases q : inF fs i = true
        · rw [if_pos q, if_pos q]
          rfl
        · rw [if_neg q, if_neg q]
          cases stL mv fs i mv.length with
          | nil => rfl
          | cons a l => simp [fget]
      · rw [if_neg (show ¬ i < k + 1 by omega)]
        have e3 : fget (fsStep mv fs k) i = none := by
          unfold fget
          rw [List.find?_eq_none.mpr fun p hp => ?_]
          · rfl
          · have := (fsStep_mem hp).1
            simp
            omega
        rw [e3]
        rfl
theorem fget_0 {i : Nat} (hi : i < n) : fget (fs0 ss n) i = if (goalO ss i).isSome then some none else none := by
  by_cases h : (goalO ss i).isSome = true
  · rw [if_pos h]
    have : ((i, none) : Nat × Option Nat) ∈ fs0 ss n := by
      unfold fs0
      refine List.mem_filterMap.mpr ⟨i, List.mem_range.mpr hi, ?_⟩
      rw [if_pos h]
    exact fget_of (fs0_ok ss n) this
  · rw [if_neg h]
    have q : inF (fs0 ss n) i = false := by
      rw [fs0_in hi]
      simpa using h
    rw [inF_fget] at q
    cases e : fget (fs0 ss n) i with
    | none => rfl
    | some o => rw [e] at q; cases q
/-- interchangeable states have the same first steps -/
theorem EqI.fget_ (h : Mvs ss mv n) {k : Nat} (hf : fsL mv (fsK ss mv n k) n = []) : ∀ K i j, i < n → j < n → EqI ss mv i j → fget (fsK ss mv n K) i = fget (fsK ss mv n K) j
  | 0, i, j, hi, hj, ⟨c, e⟩ => by
    show fget (fs0 ss n) i = fget (fs0 ss n) j
    rw [fget_0 hi, fget_0 hj]
    have : goalO ss j = oadd (goalO ss i) (some c) := e [] (by intro s hs; cases hs)
    rw [this]
    cases goalO ss i <;> rfl
  | K + 1, i, j, hi, hj, e => by
    have ih := EqI.fget_ h hf K
    have e1 := ih i j hi hj e
    have hin : inF (fsK ss mv n K) i = inF (fsK ss mv n K) j := by rw [inF_fget, inF_fget, e1]
    have hst : stL mv (fsK ss mv n K) i mv.length = stL mv (fsK ss mv n K) j mv.length := by
      unfold stL
      refine List.filter_congr fun s hs => ?_
      rw [List.mem_range] at hs
      obtain ⟨c, e⟩ := e
      have e2 := ih _ _ (h.lt s i hs hi) (h.lt s j hs hj) (e.stepI h hf hi hj hs)
      rw [inF_fget, inF_fget, e2]
    have app : ∀ i, fget (fsK ss mv n (K + 1)) i = (fget (fsK ss mv n K) i).or (fget (fsL mv (fsK ss mv n K) n) i) := fun i => by
      show fget (fsK ss mv n K ++ _) i = _
      unfold fget
      rw [List.find?_append]
      cases (fsK ss mv n K).find? (fun p => decide (p.1 = i)) <;> simp
    rw [app, app, e1, fget_L, fget_L, if_pos hi, if_pos hj, hin, hst]
/-- and rests that far apart -/
theorem EqK.rest (h : Mvs ss mv n) {k : Nat} (hf : fsL mv (fsK ss mv n k) n = []) {d i : Nat} {r : Int} (hr : RestIs ss mv (fsK ss mv n k) d i r) : ∀ {j : Nat} {c : Int}, i < n → j < n → EqK ss mv c i j → RestIs ss mv (fsK ss mv n k) d j (r + c) := by
  induction hr with
  | @goal i g h1 h2 =>
    intro j c hi hj e
    refine .goal (by rw [← EqI.fget_ h hf k i j hi hj ⟨c, e⟩]; exact h1) ?_
    have : goalO ss j = oadd (goalO ss i) (some c) := e [] (by intro s hs; cases hs)
    rw [this, h2]
    rfl
  | @step i s d to w r h1 h2 h3 ih =>
    intro j c hi hj e
    have hs := (fsK_fs ss mv n k).st _ (fget_mem h1) s rfl
    have hto : (mvAt mv s i).1 = to := by rw [h2]
    have hin : inF (fsK ss mv n k) (mvAt mv s i).1 = true := by
      rw [hto]
      cases h3 with
      | goal q _ => rw [inF_fget, q]; rfl
      | step q _ _ => rw [inF_fget, q]; rfl
    rcases e.step h hf hi hj hs with ⟨a, b, ea, eb, e2⟩ | ⟨q1, _, _⟩
    · rw [h2] at ea
      cases ea
      rw [hto] at e2
      have l1 := h.lt s i hs hi
      rw [hto] at l1
      have h4 := ih l1 (h.lt s j hs hj) e2
      have := RestIs.step (i := j) (s := s) (to := (mvAt mv s j).1) (w := b) (by rw [← EqI.fget_ h hf k i j hi hj ⟨c, e⟩]; exact h1) (Prod.ext rfl eb) h4
      have e5 : w + r + c = b + (r + (c + w - b)) := by omega
      rw [e5]
      exact this
    · rw [hin] at q1
      cases q1
theorem EqK.restOf_ (h : Mvs ss mv n) {k : Nat} (hf : fsL mv (fsK ss mv n k) n = []) {i j : Nat} {c : Int} (hi : i < n) (hj : j < n) (e : EqK ss mv c i j) (hin : inF (fsK ss mv n k) i = true) : restOf ss mv (fsK ss mv n k) j = restOf ss mv (fsK ss mv n k) i + c := by
  obtain ⟨d, r, _, hr, _, _⟩ := in_val h hin
  rw [restOf_eq hr, restOf_eq (EqK.rest h hf hr hi hj e)]
end
end Cp
end

section
set_option Elab.async false
set_option linter.all false
set_option maxRecDepth 100000
namespace Cp
section
variable {ss : List Row} {mv : List (List Mv)} {n : Nat}
noncomputable abbrev rsK (ss : List Row) (mv : List (List Mv)) (n k : Nat) : Rs := rsOf ss mv (fsK ss mv n k)
theorem rget_K (k i : Nat) : rget (rsK ss mv n k) i = if inF (fsK ss mv n k) i then some (restOf ss mv (fsK ss mv n k) i) else none := rget_rs ss mv _ _ i
theorem markA (h : Mvs ss mv n) {k : Nat} (hf : fsL mv (fsK ss mv n k) n = []) {parts : List Nat} (hp : ∀ a b, a < n → b < n → EqI ss mv a b → parts.getD a 0 = parts.getD b 0) {i j : Nat} (hi : i < n) (hj : j < n) (e : EqI ss mv i j) : markF ss mv (rsK ss mv n k) parts i = markF ss mv (rsK ss mv n k) parts j := by
  have hin := e.in_ h hf hi hj
  obtain ⟨c, e⟩ := e
  unfold markF
  rw [rget_K, rget_K, hin]
  cases q : inF (fsK ss mv n k) j with
  | false => rfl
  | true =>
    rw [q] at hin
    have er := EqK.restOf_ h hf hi hj e hin
    simp only [if_true]
    have eg : goalO ss j = oadd (goalO ss i) (some c) := e [] (fun s hs => (by cases hs))
    refine congrArg some (Prod.ext ?_ ?_)
    · show (goalO ss i).map _ = (goalO ss j).map _
      rw [eg, er]
      cases goalO ss i with
      | none => rfl
      | some g =>
        show some (g - restOf ss mv (fsK ss mv n k) i) = some (g + c - (restOf ss mv (fsK ss mv n k) i + c))
        congr 1
        omega
    · refine List.map_congr_left fun s hs => ?_
      rw [List.mem_range] at hs
      have l1 := h.lt s i hs hi
      have l2 := h.lt s j hs hj
      refine Prod.ext (hp _ _ l1 l2 (e.stepI h hf hi hj hs)) ?_
      show moreF _ _ _ = moreF _ _ _
      unfold moreF
      rw [rget_K, rget_K]
      rcases e.step h hf hi hj hs with ⟨a, b, ea, eb, e2⟩ | ⟨q1, q2, _⟩
      · have hin2 := EqI.in_ h hf l1 l2 ⟨_, e2⟩
        rw [hin2]
        cases q3 : inF (fsK ss mv n k) (mvAt mv s j).1 with
        | false => rfl
        | true =>
          rw [q3] at hin2
          have er2 := EqK.restOf_ h hf l1 l2 e2 hin2
          simp only [if_true]
          rw [ea, eb, er2, er]
          show some (a + restOf ss mv (fsK ss mv n k) (mvAt mv s i).1 - restOf ss mv (fsK ss mv n k) i) = some (b + (restOf ss mv (fsK ss mv n k) (mvAt mv s i).1 + (c + a - b)) - (restOf ss mv (fsK ss mv n k) i + c))
          congr 1
          omega
      · rw [q1, q2]
        rfl
theorem partsA (h : Mvs ss mv n) {k : Nat} (hf : fsL mv (fsK ss mv n k) n = []) : ∀ K i j, i < n → j < n → EqI ss mv i j → (partsK ss mv (rsK ss mv n k) n K).getD i 0 = (partsK ss mv (rsK ss mv n k) n K).getD j 0
  | 0, i, j, hi, hj, _ => by
    show (List.replicate n 0).getD i 0 = (List.replicate n 0).getD j 0
    rw [List.getD_eq_getElem?_getD, List.getD_eq_getElem?_getD, List.getElem?_replicate, List.getElem?_replicate, if_pos hi, if_pos hj]
  | K + 1, i, j, hi, hj, e => by
    rw [parts_iff hi hj]
    exact markA h hf (partsA h hf K) hi hj e
theorem partsB (h : Mvs ss mv n) {k : Nat} (hf : fsL mv (fsK ss mv n k) n = []) {K : Nat} (hc : cntK ss mv (rsK ss mv n k) n (K + 1) = cntK ss mv (rsK ss mv n k) n K) {i j : Nat} (hi : i < n) (hj : j < n) (e : (partsK ss mv (rsK ss mv n k) n (K + 1)).getD i 0 = (partsK ss mv (rsK ss mv n k) n (K + 1)).getD j 0) : EqI ss mv i j := by
  -- what one step tells
  have one : ∀ i j, i < n → j < n → (partsK ss mv (rsK ss mv n k) n (K + 1)).getD i 0 = (partsK ss mv (rsK ss mv n k) n (K + 1)).getD j 0 → inF (fsK ss mv n k) i = inF (fsK ss mv n k) j ∧ (inF (fsK ss mv n k) i = true → (goalO ss i).map (· - restOf ss mv (fsK ss mv n k) i) = (goalO ss j).map (· - restOf ss mv (fsK ss mv n k) j) ∧
      ∀ s, s < mv.length → (partsK ss mv (rsK ss mv n k) n (K + 1)).getD (mvAt mv s i).1 0 = (partsK ss mv (rsK ss mv n k) n (K + 1)).getD (mvAt mv s j).1 0 ∧ moreF (rsK ss mv n k) (restOf ss mv (fsK ss mv n k) i) (mvAt mv s i) = moreF (rsK ss mv n k) (restOf ss mv (fsK ss mv n k) j) (mvAt mv s j)) := fun i j hi hj e => by
    rw [parts_iff hi hj] at e
    unfold markF at e
    rw [rget_K, rget_K] at e
    cases q1 : inF (fsK ss mv n k) i <;> cases q2 : inF (fsK ss mv n k) j <;> rw [q1, q2] at e
    · exact ⟨rfl, fun z => by cases z⟩
    · cases e
    · cases e
    · refine ⟨rfl, fun _ => ?_⟩
      simp only [if_true, Option.some.injEq, Prod.mk.injEq] at e
      refine ⟨e.1, fun s hs => ?_⟩
      have := List.map_inj_left.mp e.2 s (List.mem_range.mpr hs)
      simp only [Prod.mk.injEq] at this
      exact ⟨cnt_stable h.lt hc (h.lt s i hs hi) (h.lt s j hs hj) this.1, this.2⟩
  have key : ∀ (C : List Nat) i j, i < n → j < n → VC mv C → (partsK ss mv (rsK ss mv n k) n (K + 1)).getD i 0 = (partsK ss mv (rsK ss mv n k) n (K + 1)).getD j 0 → inF (fsK ss mv n k) i = true → valI ss mv C j = oadd (valI ss mv C i) (some (restOf ss mv (fsK ss mv n k) j - restOf ss mv (fsK ss mv n k) i)) := by
    intro C
    induction C with
    | nil =>
      intro i j hi hj _ e q
      have h1 := ((one i j hi hj e).2 q).1
      show goalO ss j = oadd (goalO ss i) _
      cases e1 : goalO ss i with
      | none =>
        cases e2 : goalO ss j with
        | none => rfl
        | some b => rw [e1, e2] at h1; cases h1
      | some a =>
        cases e2 : goalO ss j with
        | none => rw [e1, e2] at h1; cases h1
        | some b =>
          rw [e1, e2] at h1
          have h2 : a - restOf ss mv (fsK ss mv n k) i = b - restOf ss mv (fsK ss mv n k) j := Option.some.inj h1
          show some b = some (a + _)
          congr 1
          omega
    | cons s C ih =>
      intro i j hi hj hC e q
      have hs := hC s (List.mem_cons_self ..)
      have hC2 : VC mv C := fun x hx => hC x (List.mem_cons_of_mem _ hx)
      obtain ⟨hp, hm⟩ := ((one i j hi hj e).2 q).2 s hs
      have l1 := h.lt s i hs hi
      have l2 := h.lt s j hs hj
      have hin := (one _ _ l1 l2 hp).1
      show oadd (mvAt mv s j).2 (valI ss mv C (mvAt mv s j).1) = oadd (oadd (mvAt mv s i).2 (valI ss mv C (mvAt mv s i).1)) _
      cases q1 : inF (fsK ss mv n k) (mvAt mv s i).1 with
      | false =>
        rw [q1] at hin
        rw [val_out h hf l1 hC2 q1, val_out h hf l2 hC2 hin.symm, oadd_none, oadd_none]
        rfl
      | true =>
        rw [q1] at hin
        obtain ⟨a, ha⟩ := h.gr k s i hs hi q1
        obtain ⟨b, hb⟩ := h.gr k s j hs hj hin.symm
        have h3 := ih _ _ l1 l2 hC2 hp q1
        unfold moreF at hm
        rw [rget_K, rget_K, q1, ← hin] at hm
        simp only [if_true] at hm
        rw [ha, hb] at hm
        have h4 : a + restOf ss mv (fsK ss mv n k) (mvAt mv s i).1 - restOf ss mv (fsK ss mv n k) i = b + restOf ss mv (fsK ss mv n k) (mvAt mv s j).1 - restOf ss mv (fsK ss mv n k) j := Option.some.inj hm
        rw [h3, ha, hb]
        cases valI ss mv C (mvAt mv s i).1 with
        | none => rfl
        | some v =>
          show some _ = some _
          congr 1
          omega
  cases q : inF (fsK ss mv n k) i with
  | true => exact ⟨_, fun C hC => key C i j hi hj hC e q⟩
  | false =>
    have q2 := (one i j hi hj e).1
    rw [q] at q2
    exact ⟨0, fun C hC => by rw [val_out h hf hi hC q, val_out h hf hj hC q2.symm]; rfl⟩
/-- the parts at the end are the classes of the interchangeable -/
theorem parts_eqI (h : Mvs ss mv n) {k : Nat} (hf : fsL mv (fsK ss mv n k) n = []) {K : Nat} (hc : cntK ss mv (rsK ss mv n k) n (K + 1) = cntK ss mv (rsK ss mv n k) n K) {i j : Nat} (hi : i < n) (hj : j < n) : (partsK ss mv (rsK ss mv n k) n (K + 1)).getD i 0 = (partsK ss mv (rsK ss mv n k) n (K + 1)).getD j 0 ↔ EqI ss mv i j :=
  ⟨partsB h hf hc hi hj, partsA h hf (K + 1) i j hi hj⟩
end
end Cp
end

section
set_option Elab.async false
set_option linter.all false
set_option maxRecDepth 100000
/-! the moves of a machine's states, and trees -/
namespace Cp
theorem getD_idx {ss : List Row} {s : Row} (h : s ∈ ss) : ss.getD (ss.idxOf s) [] = s := by
  have h1 := List.idxOf_lt_length_of_mem h
  rw [List.getD_eq_getElem?_getD, List.getElem?_eq_getElem h1, List.getElem_idxOf]
  rfl
theorem getD_in {ss : List Row} {i : Nat} (h : i < ss.length) : ss.getD i [] ∈ ss := by
  rw [List.getD_eq_getElem?_getD, List.getElem?_eq_getElem h]
  exact List.getElem_mem _
/-- what is known of the list of all states -/
structure Sts (m : Mach) (ss : List Row) : Prop where
  nd : ss.Nodup
  rch : ∀ s ∈ ss, Rch m s
  all : ∀ s, Rch m s → s ∈ ss
section
variable {m : Mach} {ss : List Row}
theorem argsO_ok {st : Sto} (hst : st ∈ stepsO m.ar ss.length) {s : Row} (hs : s ∈ ss) : m.ar[st.1]? = some (argsO ss st s).length ∧ (∀ x ∈ argsO ss st s, x ∈ ss) ∧ s ∈ argsO ss st s := by
  obtain ⟨op, a, ha, h⟩ := stepsO_iff.mp hst
  rcases stp1_mem h with ⟨e, rfl⟩ | ⟨e, pl, n, hpl, hn, rfl⟩
  · subst e
    refine ⟨by simpa [argsO] using ha, fun x hx => ?_, by simp [argsO]⟩
    obtain rfl : x = s := by simpa [argsO] using hx
    exact hs
  · subst e
    have hp : pl = 0 ∨ pl = 1 := by omega
    rcases hp with rfl | rfl
    · refine ⟨by simpa [argsO] using ha, fun x hx => ?_, by simp [argsO]⟩
      have : x = s ∨ x = ss.getD n [] := by simpa [argsO] using hx
      rcases this with rfl | rfl
      · exact hs
      · exact getD_in hn
    · refine ⟨by simpa [argsO] using ha, fun x hx => ?_, by simp [argsO]⟩
      have : x = ss.getD n [] ∨ x = s := by simpa [argsO] using hx
      rcases this with rfl | rfl
      · exact getD_in hn
      · exact hs
theorem closedO_of (h : Sts m ss) : ClosedO m ss := fun st hst s hs => by
  obtain ⟨h1, h2, _⟩ := argsO_ok hst hs
  exact h.all _ (.step _ _ h1 fun x hx => h.rch x (h2 x hx))
theorem mvAt_eq {s i : Nat} {st : Sto} (hst : (stepsO m.ar ss.length)[s]? = some st) (hi : i < ss.length) : mvAt (movesF m ss) s i = mv1 m ss st (ss.getD i []) := by
  unfold mvAt movesF
  rw [List.getD_eq_getElem?_getD, List.getD_eq_getElem?_getD, List.getElem?_map, hst]
  show ((ss.map (mv1 m ss st))[i]?).getD _ = _
  rw [List.getElem?_map, List.getElem?_eq_getElem hi, List.getD_eq_getElem?_getD, List.getElem?_eq_getElem hi]
  rfl
theorem moves_len : (movesF m ss).length = (stepsO m.ar ss.length).length := by unfold movesF; simp
theorem step_at {s : Nat} (hs : s < (movesF m ss).length) : ∃ st, (stepsO m.ar ss.length)[s]? = some st ∧ st ∈ stepsO m.ar ss.length := by
  rw [moves_len] at hs
  exact ⟨_, List.getElem?_eq_getElem hs, List.getElem_mem _⟩
theorem later_in (h : Sts m ss) {s i : Nat} (hs : s < (movesF m ss).length) (hi : i < ss.length) : ∃ st, (stepsO m.ar ss.length)[s]? = some st ∧ st ∈ stepsO m.ar ss.length ∧ mvAt (movesF m ss) s i = mv1 m ss st (ss.getD i []) ∧ relS (jrow m st.1 (argsO ss st (ss.getD i []))) ∈ ss := by
  obtain ⟨st, h1, h2⟩ := step_at hs
  exact ⟨st, h1, h2, mvAt_eq h1 hi, closedO_of h st h2 _ (getD_in hi)⟩
theorem mv_lt (h : Sts m ss) {s i : Nat} (hs : s < (movesF m ss).length) (hi : i < ss.length) : (mvAt (movesF m ss) s i).1 < ss.length := by
  obtain ⟨st, _, _, e, hin⟩ := later_in h hs hi
  rw [e]
  exact List.idxOf_lt_length_of_mem hin
/-- where a step leads -/
theorem mv_to (h : Sts m ss) {s i : Nat} (hs : s < (movesF m ss).length) (hi : i < ss.length) {st : Sto} (hst : (stepsO m.ar ss.length)[s]? = some st) : ss.getD (mvAt (movesF m ss) s i).1 [] = relS (jrow m st.1 (argsO ss st (ss.getD i []))) ∧ (mvAt (movesF m ss) s i).2 = baseF (jrow m st.1 (argsO ss st (ss.getD i []))) := by
  rw [mvAt_eq hst hi]
  refine ⟨?_, rfl⟩
  show ss.getD (ss.idxOf _) [] = _
  exact getD_idx (closedO_of h st (List.mem_of_getElem? hst) _ (getD_in hi))
theorem dead_later (mo : MOk m) {st : Sto} (hst : st ∈ stepsO m.ar ss.length) {s : Row} (hs : s ∈ ss) (hd : Dead s) : Dead (jrow m st.1 (argsO ss st s)) := by
  obtain ⟨h1, _, h3⟩ := argsO_ok hst hs
  exact jrow_dead mo h1 ⟨s, h3, hd⟩
theorem dead_val (mo : MOk m) (h : Sts m ss) : ∀ (C : List Nat) (i : Nat), i < ss.length → VC (movesF m ss) C → Dead (ss.getD i []) → valI ss (movesF m ss) C i = none
  | [], i, _, _, hd => hd.at 0
  | s :: C, i, hi, hC, hd => by
    have hs := hC s (List.mem_cons_self ..)
    obtain ⟨st, h1, h2⟩ := step_at hs
    obtain ⟨e1, e2⟩ := mv_to h hs hi h1
    have hj := dead_later mo h2 (getD_in hi) hd
    show oadd (mvAt (movesF m ss) s i).2 _ = none
    rw [e2, base_none.mpr hj]
    rfl
theorem alive_in (mo : MOk m) (h : Sts m ss) : ∀ k i, i < ss.length → inF (fsK ss (movesF m ss) ss.length k) i = true → ¬ Dead (ss.getD i [])
  | 0, i, hi, q, hd => by
    have q' : inF (fs0 ss ss.length) i = true := q
    rw [fs0_in hi] at q'
    have : goalO ss i = none := hd.at 0
    rw [this] at q'
    cases q'
  | k + 1, i, hi, q, hd => by
    have ih := alive_in mo h k
    rw [inF_iff] at q
    have q2 : i ∈ (fsK ss (movesF m ss) ss.length k ++ fsL (movesF m ss) (fsK ss (movesF m ss) ss.length k) ss.length).map (·.1) := q
    rw [List.map_append, List.mem_append] at q2
    rcases q2 with q2 | q2
    · exact ih i hi (inF_iff.mpr q2) hd
    · obtain ⟨p, hp, rfl⟩ := List.mem_map.mp q2
      obtain ⟨_, _, s, _, hst⟩ := fsL_mem hp
      obtain ⟨hs, hin⟩ := stL_head hst
      obtain ⟨st, h1, h2⟩ := step_at hs
      obtain ⟨e1, _⟩ := mv_to h hs hi h1
      refine ih _ (mv_lt h hs hi) hin ?_
      rw [e1]
      exact dead_relS.mpr (dead_later mo h2 (getD_in hi) hd)
theorem mvs_of (mo : MOk m) (h : Sts m ss) : Mvs ss (movesF m ss) ss.length := by
  refine ⟨fun s i hs hi => mv_lt h hs hi, fun k s i hs hi q => ?_⟩
  obtain ⟨st, h1, h2⟩ := step_at hs
  obtain ⟨e1, e2⟩ := mv_to h hs hi h1
  have := alive_in mo h k _ (mv_lt h hs hi) q
  rw [e1, dead_relS, ← base_none] at this
  rw [e2]
  cases e : baseF (jrow m st.1 (argsO ss st (ss.getD i []))) with
  | none => exact absurd e this
  | some w => exact ⟨w, rfl⟩
/-! ### contexts -/
structure Ctx where
  op : Nat
  pl : Nat
  sibs : List T
structure VCt (m : Mach) (c : Ctx) : Prop where
  ar : m.ar[c.op]? = some (c.sibs.length + 1)
  pl : c.pl ≤ c.sibs.length
  wf : ∀ x ∈ c.sibs, x.WF m.ar
def plugL {α : Type} (pl : Nat) (l : List α) (x : α) : List α := l.take pl ++ [x] ++ l.drop pl
def plug (c : Ctx) (t : T) : T := mkT c.op (plugL c.pl c.sibs t)
def plugs : List Ctx → T → T
  | [], t => t
  | c :: C, t => plugs C (plug c t)
theorem plugL_len {α : Type} (pl : Nat) (l : List α) (x : α) : (plugL pl l x).length = l.length + 1 := by
  unfold plugL
  rw [List.length_append, List.length_append, List.length_take, List.length_drop, List.length_singleton]
  omega
theorem plugL_map {α β : Type} (f : α → β) (pl : Nat) (l : List α) (x : α) : (plugL pl l x).map f = plugL pl (l.map f) (f x) := by
  unfold plugL
  rw [List.map_append, List.map_append, List.map_take, List.map_drop]
  rfl
theorem argsO_plug (st : Sto) (s : Row) : argsO ss st s = plugL st.2.1 (st.2.2.map fun k => ss.getD k []) s := rfl
theorem plug_kids (a2 : ∀ a ∈ m.ar, a ≤ 2) {c : Ctx} (v : VCt m c) (t : T) : (plug c t).kids = plugL c.pl c.sibs t ∧ (plug c t).op = c.op := by
  have := a2 _ (List.mem_of_getElem? v.ar)
  exact ⟨mkT_kids (by rw [plugL_len]; exact this), mkT_op _ _⟩
theorem plug_wf (a2 : ∀ a ∈ m.ar, a ≤ 2) {c : Ctx} (v : VCt m c) {t : T} (wt : t.WF m.ar) : (plug c t).WF m.ar := by
  obtain ⟨h1, h2⟩ := plug_kids a2 v t
  refine wf_iff.mpr ⟨by rw [h1, h2, plugL_len]; exact v.ar, fun x hx => ?_⟩
  rw [h1] at hx
  unfold plugL at hx
  rcases List.mem_append.mp hx with hx | hx
  · rcases List.mem_append.mp hx with hx | hx
    · exact v.wf x (List.mem_of_mem_take hx)
    · rw [List.mem_singleton.mp hx]; exact wt
  · exact v.wf x (List.mem_of_mem_drop hx)
theorem osum_app : ∀ (a b : Row), osum (a ++ b) = oadd (osum a) (osum b)
  | [], b => by
    show osum b = oadd (some 0) (osum b)
    rw [oadd_comm, oadd_zero]
  | x :: a, b => by
    show oadd x (osum (a ++ b)) = oadd (oadd x (osum a)) (osum b)
    rw [osum_app a b, oadd_assoc]
theorem osum_plug (pl : Nat) (l : Row) (x : Option Int) : osum (plugL pl l x) = oadd x (osum l) := by
  unfold plugL
  rw [osum_app, osum_app]
  have : osum l = oadd (osum (l.take pl)) (osum (l.drop pl)) := by rw [← osum_app, List.take_append_drop]
  rw [this, show osum [x] = x from oadd_zero x, oadd_comm (osum (l.take pl)) x, oadd_assoc]
/-- a step by its number is a step of trees -/
def Rel1 (m : Mach) (ss : List Row) (s : Nat) (c : Ctx) : Prop := ∃ st, (stepsO m.ar ss.length)[s]? = some st ∧ st.1 = c.op ∧ st.2.1 = c.pl ∧ (st.2.2.map fun k => ss.getD k []) = c.sibs.map (stT m) ∧ VCt m c
inductive RelC (m : Mach) (ss : List Row) : List Nat → List Ctx → Prop where
  | nil : RelC m ss [] []
  | cons {s : Nat} {c : Ctx} {C : List Nat} {D : List Ctx} : Rel1 m ss s c → RelC m ss C D → RelC m ss (s :: C) (c :: D)
theorem RelC.vc {C : List Nat} {D : List Ctx} (r : RelC m ss C D) : VC (movesF m ss) C := by
  induction r with
  | nil => exact fun s hs => by cases hs
  | cons h _ ih =>
    intro x hx
    rcases List.mem_cons.mp hx with rfl | hx
    · obtain ⟨st, h1, _⟩ := h
      rw [moves_len]
      exact (List.getElem?_eq_some_iff.mp h1).1
    · exact ih x hx
theorem relC_of (mo : MOk m) (a2 : ∀ a ∈ m.ar, a ≤ 2) (h : Sts m ss) : ∀ {C : List Nat}, VC (movesF m ss) C → ∃ D, RelC m ss C D
  | [], _ => ⟨[], .nil⟩
  | s :: C, hC => by
    obtain ⟨D, hD⟩ := relC_of mo a2 h (C := C) fun x hx => hC x (List.mem_cons_of_mem _ hx)
    obtain ⟨st, h1, h2⟩ := step_at (hC s (List.mem_cons_self ..))
    obtain ⟨op, a, ha, h3⟩ := stepsO_iff.mp h2
    rcases stp1_mem h3 with ⟨e, rfl⟩ | ⟨e, pl, n, hpl, hn, rfl⟩
    · subst e
      exact ⟨⟨op, 0, []⟩ :: D, .cons ⟨_, h1, rfl, rfl, rfl, ⟨ha, Nat.le_refl _, fun x hx => by cases hx⟩⟩ hD⟩
    · subst e
      obtain ⟨x, wx, ex⟩ := rch_tree mo a2 (h.rch _ (getD_in hn))
      refine ⟨⟨op, pl, [x]⟩ :: D, .cons ⟨_, h1, rfl, rfl, ?_, ⟨ha, by simp; omega, fun y hy => by rw [List.mem_singleton.mp hy]; exact wx⟩⟩ hD⟩
      show [ss.getD n []] = [stT m x]
      rw [ex]
theorem relC_to (mo : MOk m) (a2 : ∀ a ∈ m.ar, a ≤ 2) (h : Sts m ss) : ∀ {D : List Ctx}, (∀ c ∈ D, VCt m c) → ∃ C, RelC m ss C D
  | [], _ => ⟨[], .nil⟩
  | c :: D, hD => by
    obtain ⟨C, hC⟩ := relC_to mo a2 h (D := D) fun x hx => hD x (List.mem_cons_of_mem _ hx)
    have v := hD c (List.mem_cons_self ..)
    have hl := a2 _ (List.mem_of_getElem? v.ar)
    have key : ∃ st ∈ stepsO m.ar ss.length, st.1 = c.op ∧ st.2.1 = c.pl ∧ (st.2.2.map fun k => ss.getD k []) = c.sibs.map (stT m) := by
      obtain ⟨op, pl, sibs⟩ := c
      obtain ⟨v1, v2, v3⟩ := v
      match sibs, v1, v2, v3, hl with
      | [], v1, v2, _, _ =>
        have v2' : pl ≤ 0 := v2
        obtain rfl : pl = 0 := by omega
        exact ⟨(op, 0, []), stepsO_iff.mpr ⟨op, 1, v1, by simp [stp1]⟩, rfl, rfl, rfl⟩
      | [x], v1, v2, v3, _ =>
        have v2' : pl ≤ 1 := v2
        have hin := h.all _ (tree_rch mo (v3 x (by simp)))
        refine ⟨(op, pl, [ss.idxOf (stT m x)]), stepsO_iff.mpr ⟨op, 2, v1, ?_⟩, rfl, rfl, ?_⟩
        · rw [stp1, if_neg (by omega), if_pos rfl]
          unfold plc
          simp only [List.mem_flatMap, List.mem_range, List.mem_map]
          exact ⟨pl, by omega, _, List.idxOf_lt_length_of_mem hin, rfl⟩
        · show [ss.getD (ss.idxOf _) []] = [stT m x]
          rw [getD_idx hin]
      | _ :: _ :: _, _, _, _, hl => simp at hl
    obtain ⟨st, hst, e1, e2, e3⟩ := key
    obtain ⟨s, hs, e⟩ := List.getElem_of_mem hst
    exact ⟨s :: C, .cons ⟨st, by rw [List.getElem?_eq_getElem hs, e], e1, e2, e3, v⟩ hC⟩
/-- prices in a context -/
theorem val_tree (mo : MOk m) (a2 : ∀ a ∈ m.ar, a ≤ 2) (h : Sts m ss) {C : List Nat} {D : List Ctx} (r : RelC m ss C D) : (∃ k, ∀ t : T, t.WF m.ar → goT m (plugs D t) = oadd (oadd (valI ss (movesF m ss) C (ss.idxOf (stT m t))) (baT m t)) (some k)) ∨ ∀ t : T, t.WF m.ar → goT m (plugs D t) = none ∧ valI ss (movesF m ss) C (ss.idxOf (stT m t)) = none := by
  induction r with
  | nil =>
    refine .inl ⟨0, fun t wt => ?_⟩
    rw [oadd_zero]
    show goT m t = oadd (goalO ss (ss.idxOf (stT m t))) (baT m t)
    unfold goalO
    rw [getD_idx (h.all _ (tree_rch mo wt)), goal_st]
  | @cons s c C D h1 r ih =>
    obtain ⟨st, hst, e1, e2, e3, v⟩ := h1
    have hs : s < (movesF m ss).length := by rw [moves_len]; exact (List.getElem?_eq_some_iff.mp hst).1
    have one : ∀ t : T, t.WF m.ar → ss.idxOf (stT m t) < ss.length ∧ (mvAt (movesF m ss) s (ss.idxOf (stT m t))).1 = ss.idxOf (stT m (plug c t)) ∧ baT m (plug c t) = oadd (oadd (mvAt (movesF m ss) s (ss.idxOf (stT m t))).2 (baT m t)) (osum (c.sibs.map (baT m))) := fun t wt => by
      have hin := h.all _ (tree_rch mo wt)
      have hi := List.idxOf_lt_length_of_mem hin
      obtain ⟨g1, g2⟩ := mv_to h hs hi hst
      have wp := plug_wf a2 v wt
      obtain ⟨k1, k2⟩ := plug_kids a2 v t
      obtain ⟨n1, n2⟩ := node_st mo wp
      rw [k1, k2, plugL_map] at n1 n2
      have ea : argsO ss st (stT m t) = plugL c.pl (c.sibs.map (stT m)) (stT m t) := by rw [argsO_plug, e2, e3]
      rw [getD_idx hin, ea, e1] at g1 g2
      refine ⟨hi, ?_, ?_⟩
      · rw [mvAt_eq hst hi]
        show ss.idxOf (relS (jrow m st.1 (argsO ss st (ss.getD (ss.idxOf (stT m t)) [])))) = _
        rw [getD_idx hin, ea, e1, n1]
      · rw [n2, g2, plugL_map, osum_plug, oadd_assoc]
    rcases ih with ⟨k, hk⟩ | hk
    · cases eb : osum (c.sibs.map (baT m)) with
      | some b =>
        refine .inl ⟨k + b, fun t wt => ?_⟩
        obtain ⟨hi, o1, o2⟩ := one t wt
        show goT m (plugs D (plug c t)) = oadd (oadd (oadd (mvAt (movesF m ss) s (ss.idxOf (stT m t))).2 (valI ss (movesF m ss) C (mvAt (movesF m ss) s (ss.idxOf (stT m t))).1)) (baT m t)) _
        rw [hk _ (plug_wf a2 v wt), o1, o2, eb]
        cases valI ss (movesF m ss) C (ss.idxOf (stT m (plug c t))) <;> cases (mvAt (movesF m ss) s (ss.idxOf (stT m t))).2 <;> cases baT m t <;> simp [oadd] <;> omega
      | none =>
        refine .inr fun t wt => ?_
        obtain ⟨hi, o1, o2⟩ := one t wt
        have wp := plug_wf a2 v wt
        rw [eb, oadd_none] at o2
        have hd : Dead (stT m (plug c t)) := dead_relS.mpr (base_none.mp o2)
        have hin2 := h.all _ (tree_rch mo wp)
        have hv : valI ss (movesF m ss) C (ss.idxOf (stT m (plug c t))) = none := dead_val mo h C _ (List.idxOf_lt_length_of_mem hin2) r.vc (by rw [getD_idx hin2]; exact hd)
        refine ⟨?_, ?_⟩
        · show goT m (plugs D (plug c t)) = none
          rw [hk _ wp, hv]
          rfl
        · show oadd _ (valI ss (movesF m ss) C (mvAt (movesF m ss) s (ss.idxOf (stT m t))).1) = none
          rw [o1, hv, oadd_none]
    · refine .inr fun t wt => ?_
      obtain ⟨hi, o1, o2⟩ := one t wt
      obtain ⟨q1, q2⟩ := hk _ (plug_wf a2 v wt)
      refine ⟨q1, ?_⟩
      show oadd _ (valI ss (movesF m ss) C (mvAt (movesF m ss) s (ss.idxOf (stT m t))).1) = none
      rw [o1, q2, oadd_none]
/-- trees that are interchangeable -/
def EqT (m : Mach) (t u : T) : Prop := ∃ k, ∀ D : List Ctx, (∀ c ∈ D, VCt m c) → goT m (plugs D u) = oadd (goT m (plugs D t)) (some k)
theorem eqT_iff (mo : MOk m) (a2 : ∀ a ∈ m.ar, a ≤ 2) (h : Sts m ss) {t u : T} (wt : t.WF m.ar) (wu : u.WF m.ar) : EqI ss (movesF m ss) (ss.idxOf (stT m t)) (ss.idxOf (stT m u)) ↔ EqT m t u := by
  have it := h.all _ (tree_rch mo wt)
  have iu := h.all _ (tree_rch mo wu)
  have li := List.idxOf_lt_length_of_mem it
  have lj := List.idxOf_lt_length_of_mem iu
  have dt : baT m t = none → ∀ C, VC (movesF m ss) C → valI ss (movesF m ss) C (ss.idxOf (stT m t)) = none := fun e C hC => dead_val mo h C _ li hC (by rw [getD_idx it]; exact dead_relS.mpr (base_none.mp e))
  have du : baT m u = none → ∀ C, VC (movesF m ss) C → valI ss (movesF m ss) C (ss.idxOf (stT m u)) = none := fun e C hC => dead_val mo h C _ lj hC (by rw [getD_idx iu]; exact dead_relS.mpr (base_none.mp e))
  have nn : ∀ {x : Option Int} {k : Int}, oadd x (some k) = none → x = none := fun {x k} e => by
    cases x with
    | none => rfl
    | some v => cases e
  constructor
  · rintro ⟨k, e⟩
    have both : ∀ D, (∀ c ∈ D, VCt m c) → ∃ C, RelC m ss C D ∧ VC (movesF m ss) C := fun D hD => by
      obtain ⟨C, r⟩ := relC_to mo a2 h hD
      exact ⟨C, r, r.vc⟩
    have deadcase : (∀ C, VC (movesF m ss) C → valI ss (movesF m ss) C (ss.idxOf (stT m t)) = none ∧ valI ss (movesF m ss) C (ss.idxOf (stT m u)) = none) → EqT m t u := fun hd => by
      refine ⟨0, fun D hD => ?_⟩
      obtain ⟨C, r, hC⟩ := both D hD
      obtain ⟨h1, h2⟩ := hd C hC
      rcases val_tree mo a2 h r with ⟨K, hK⟩ | hK
      · rw [hK t wt, hK u wu, h1, h2]
        rfl
      · rw [(hK t wt).1, (hK u wu).1]
        rfl
    cases ea : baT m t with
    | none => exact deadcase fun C hC => ⟨dt ea C hC, by rw [e C hC, dt ea C hC]; rfl⟩
    | some a =>
      cases eb : baT m u with
      | none => exact deadcase fun C hC => ⟨nn (by rw [← e C hC]; exact du eb C hC), du eb C hC⟩
      | some b =>
        refine ⟨k + b - a, fun D hD => ?_⟩
        obtain ⟨C, r, hC⟩ := both D hD
        rcases val_tree mo a2 h r with ⟨K, hK⟩ | hK
        · rw [hK t wt, hK u wu, e C hC, ea, eb]
          cases valI ss (movesF m ss) C (ss.idxOf (stT m t)) with
          | none => rfl
          | some v =>
            show some (v + k + b + K) = some (v + a + K + (k + b - a))
            congr 1
            omega
        · rw [(hK t wt).1, (hK u wu).1]
          rfl
  · rintro ⟨k, e⟩
    have both : ∀ C, VC (movesF m ss) C → ∃ D, RelC m ss C D ∧ ∀ c ∈ D, VCt m c := fun C hC => by
      obtain ⟨D, r⟩ := relC_of mo a2 h hC
      refine ⟨D, r, ?_⟩
      clear hC
      induction r with
      | nil => exact fun c hc => by cases hc
      | cons h1 _ ih =>
        intro c hc
        rcases List.mem_cons.mp hc with rfl | hc
        · obtain ⟨_, _, _, _, _, v⟩ := h1
          exact v
        · exact ih c hc
    cases ea : baT m t with
    | none =>
      refine ⟨0, fun C hC => ?_⟩
      rw [dt ea C hC]
      show _ = none
      cases eb : baT m u with
      | none => exact du eb C hC
      | some b =>
        obtain ⟨D, r, hD⟩ := both C hC
        rcases val_tree mo a2 h r with ⟨K, hK⟩ | hK
        · have h1 := e D hD
          rw [hK t wt, hK u wu, dt ea C hC, eb] at h1
          exact nn (nn h1)
        · exact (hK u wu).2
    | some a =>
      cases eb : baT m u with
      | none =>
        refine ⟨0, fun C hC => ?_⟩
        rw [du eb C hC]
        obtain ⟨D, r, hD⟩ := both C hC
        rcases val_tree mo a2 h r with ⟨K, hK⟩ | hK
        · have h1 := e D hD
          rw [hK t wt, hK u wu, du eb C hC, ea] at h1
          have h2 : valI ss (movesF m ss) C (ss.idxOf (stT m t)) = none := nn (nn (nn h1.symm))
          rw [h2]
          rfl
        · rw [(hK t wt).2]
          rfl
      | some b =>
        refine ⟨k + a - b, fun C hC => ?_⟩
        obtain ⟨D, r, hD⟩ := both C hC
        rcases val_tree mo a2 h r with ⟨K, hK⟩ | hK
        · have h1 := e D hD
          rw [hK t wt, hK u wu, ea, eb] at h1
          cases e1 : valI ss (movesF m ss) C (ss.idxOf (stT m t)) with
          | none =>
            rw [e1] at h1
            exact nn (nn h1)
          | some v =>
            cases e2 : valI ss (movesF m ss) C (ss.idxOf (stT m u)) with
            | none => rw [e1, e2] at h1; cases h1
            | some v2 =>
              rw [e1, e2] at h1
              have h2 : v2 + b + K = v + a + K + k := Option.some.inj h1
              show some v2 = some (v + (k + a - b))
              congr 1
              omega
        · rw [(hK t wt).2, (hK u wu).2]
          rfl
end
end Cp
end

section
set_option Elab.async false
set_option linter.all false
set_option maxRecDepth 100000
/-! the drawn machine and the wider one -/
namespace Cp
theorem DrM.chk {m : Mach} (h : DrM m) : Chk m.n m.cv := chk_of (chk_dr h.n1 h.n3 h.cv h.cN)
theorem DrM.mok {m : Mach} (h : DrM m) : MOk m := ⟨fun i hi => (h.ins i hi).1, h.chk.ok⟩
theorem Wid.mok {m W : Mach} (h : DrM m) (w : Wid m W) : MOk W := by
  refine ⟨fun i hi => ((w.ok h).ins i hi), ?_⟩
  rw [w.n, w.cv]
  exact h.chk.okW h.n1
/-- the children's parts are the same -/
theorem parts_W {m W : Mach} : ∀ {ks : List T} {as : List Nat}, (∀ x ∈ ks, ∀ g < m.n, (rowT W x).getD g none = (rowT m x).getD g none) → (∀ a ∈ as, a < m.n) → partsF (ks.map (rowT W)) as = partsF (ks.map (rowT m)) as
  | [], _, _, _ => rfl
  | x :: ks, [], _, _ => rfl
  | x :: ks, a :: as, h, ha => by
    show (rowT W x).getD a none :: partsF (ks.map (rowT W)) as = (rowT m x).getD a none :: partsF (ks.map (rowT m)) as
    rw [h x (List.mem_cons_self ..) a (ha a (List.mem_cons_self ..)), parts_W (fun y hy => h y (List.mem_cons_of_mem _ hy)) fun b hb => ha b (List.mem_cons_of_mem _ hb)]
theorem rowT_W {m W : Mach} (h : DrM m) (w : Wid m W) : ∀ (t : T), ∀ g < m.n, (rowT W t).getD g none = (rowT m t).getD g none := by
  refine T.ind fun t ih g hg => ?_
  have mo := h.mok
  have mw := w.mok h
  obtain ⟨more, e, _, hm⟩ := w.ins
  rw [rowT_kids, rowT_kids m]
  refine lb_ext fun z => ?_
  rw [jrow_lb mw.form mw.w (by rw [w.n]; omega), jrow_lb mo.form mo.w hg]
  have same : ∀ i ∈ m.ins, offer W (t.kids.map (rowT W)) g i = offer m (t.kids.map (rowT m)) g i := fun i hi => by
    unfold offer costF
    rw [parts_W ih (mo.ins i hi).args, w.n, w.cv, h.chk.bfg _ _ (mo.form i hi) hg]
  constructor
  · intro q i hi ho
    rw [← same i hi]
    exact q i (by rw [e]; exact List.mem_append_left _ hi) ho
  · intro q i hi ho
    rw [e] at hi
    rcases List.mem_append.mp hi with hi | hi
    · rw [same i hi]
      exact q i hi ho
    · unfold offer
      rw [(hm i hi).1, w.n, w.cv, h.chk.bnf g hg, oadd_none]
      exact lb_none z
theorem goT_W {m W : Mach} (h : DrM m) (w : Wid m W) (t : T) : goT W t = goT m t := rowT_W h w t 0 h.n1
theorem wf_W {m W : Mach} (w : Wid m W) {t : T} : t.WF W.ar ↔ t.WF m.ar := by rw [w.ar]
theorem VCt_W {m W : Mach} (w : Wid m W) {c : Ctx} : VCt W c ↔ VCt m c := by
  constructor
  · rintro ⟨a, b, d⟩
    exact ⟨by rw [← w.ar]; exact a, b, by rw [← w.ar]; exact d⟩
  · rintro ⟨a, b, d⟩
    exact ⟨by rw [w.ar]; exact a, b, by rw [w.ar]; exact d⟩
end Cp
end

section
set_option Elab.async false
set_option linter.all false
set_option maxRecDepth 100000
/-! the law's rows are the program's -/
namespace Cp
def bnd (j : Nat) : Int := 15 * 2 ^ j - 15
def Bnd (j : Nat) (r : Row) : Prop := ∀ x, some x ∈ r → 0 ≤ x ∧ x ≤ bnd j
theorem bnd_mono {j k : Nat} (h : j ≤ k) : bnd j ≤ bnd k := by
  unfold bnd
  have : (2 : Int) ^ j ≤ 2 ^ k := by
    have h1 : (2 : Nat) ^ j ≤ 2 ^ k := Nat.pow_le_pow_right (by omega) h
    exact_mod_cast h1
  omega
theorem Bnd.mono {j k : Nat} {r : Row} (h : Bnd j r) (e : j ≤ k) : Bnd k r := fun x hx => ⟨(h x hx).1, Int.le_trans (h x hx).2 (bnd_mono e)⟩
theorem osum_nn2 : ∀ {l : Row}, none ∈ l → osum l = none
  | x :: l, h => by
    show oadd x (osum l) = none
    rcases List.mem_cons.mp h with rfl | h
    · rfl
    · rw [osum_nn2 h, oadd_none]
theorem lrS_lb {n : Nat} {lw : List Row} {op : Nat} {rows : List Row} {i : Ins} {fd : Row} {z : Int} {g : Nat} (hf : fd.length = n) (hg : g < n) : (lrS n lw op rows i fd).length = n ∧ (lb z ((lrS n lw op rows i fd).getD g none) ↔ lb z (fd.getD g none) ∧ (i.op = op → lb z (oadd (costF rows i) (mget lw i.form g)))) := by
  unfold lrS
  by_cases h : i.op = op ∧ none ∉ partsF rows i.args
  · rw [if_pos h]
    have key : ∀ k, k ≤ n → (itn (fun l fd => lr1 lw (osum (some i.price :: partsF rows i.args)) i.form l fd) k fd).length = n ∧ (lb z ((itn (fun l fd => lr1 lw (osum (some i.price :: partsF rows i.args)) i.form l fd) k fd).getD g none) ↔ lb z (fd.getD g none) ∧ (g < k → lb z (oadd (costF rows i) (mget lw i.form g)))) := by
      intro k
      induction k with
      | zero => exact fun _ => ⟨hf, by simp [itn]⟩
      | succ k ih =>
        intro hk
        obtain ⟨h1, h2⟩ := ih (by omega)
        refine ⟨by show (lr1 _ _ _ _ _).length = n; unfold lr1; rw [List.length_set]; exact h1, ?_⟩
        show lb z ((lr1 lw (osum (some i.price :: partsF rows i.args)) i.form k (itn (fun l fd => lr1 lw (osum (some i.price :: partsF rows i.args)) i.form l fd) k fd)).getD g none) ↔ _
        unfold lr1 at h1 h2 ⊢
        rw [getD_set (by rw [h1]; omega)]
        by_cases e : k = g
        · subst e
          rw [if_pos rfl, lb_oless, h2]
          exact ⟨fun q => ⟨q.1.1, fun _ => q.2⟩, fun q => ⟨⟨q.1, fun hh => absurd hh (Nat.lt_irrefl _)⟩, q.2 (by omega)⟩⟩
        · rw [if_neg e, h2]
          exact ⟨fun q => ⟨q.1, fun hh => q.2 (by omega)⟩, fun q => ⟨q.1, fun hh => q.2 (by omega)⟩⟩
    obtain ⟨h1, h2⟩ := key n (Nat.le_refl _)
    exact ⟨h1, h2.trans ⟨fun q => ⟨q.1, fun _ => q.2 hg⟩, fun q => ⟨q.1, fun _ => q.2 h.1⟩⟩⟩
  · rw [if_neg h]
    refine ⟨hf, fun q => ⟨q, fun ho => ?_⟩, fun q => q.1⟩
    have hn : none ∈ partsF rows i.args := Classical.byContradiction fun hh => h ⟨ho, hh⟩
    have : costF rows i = none := osum_nn2 (List.mem_cons_of_mem _ hn)
    rw [this]
    exact lb_none z
theorem lrF_lb {n : Nat} {lw : List Row} {op : Nat} {rows : List Row} {z : Int} {g : Nat} (hg : g < n) (ins : List Ins) : (lrF n lw ins op rows).length = n ∧ (lb z ((lrF n lw ins op rows).getD g none) ↔ z ≤ big ∧ ∀ i ∈ ins, i.op = op → lb z (oadd (costF rows i) (mget lw i.form g))) := by
  unfold lrF
  suffices ∀ (ins : List Ins) (fd : Row), fd.length = n → (ins.foldl (fun fd i => lrS n lw op rows i fd) fd).length = n ∧ (lb z ((ins.foldl (fun fd i => lrS n lw op rows i fd) fd).getD g none) ↔ lb z (fd.getD g none) ∧ ∀ i ∈ ins, i.op = op → lb z (oadd (costF rows i) (mget lw i.form g))) by
    obtain ⟨h1, h2⟩ := this ins (List.replicate n (some big)) (by simp)
    refine ⟨h1, h2.trans ?_⟩
    rw [List.getD_eq_getElem?_getD, List.getElem?_replicate, if_pos hg]
    show lb z (some big) ∧ _ ↔ _
    rw [lb_some]
  intro ins
  induction ins with
  | nil => intro fd h; exact ⟨h, by simp⟩
  | cons i r ih =>
    intro fd h
    obtain ⟨h1, h2⟩ := lrS_lb (lw := lw) (op := op) (rows := rows) (i := i) (z := z) h hg
    obtain ⟨h3, h4⟩ := ih _ h1
    refine ⟨h3, ?_⟩
    rw [List.foldl_cons, h4, h2]
    simp only [List.mem_cons, forall_eq_or_imp]
    rw [and_assoc]
theorem parts_bnd {B : Int} (hB : 0 ≤ B) : ∀ {rows : List Row} {as : List Nat} {c : Int}, (∀ r ∈ rows, ∀ x, some x ∈ r → 0 ≤ x ∧ x ≤ B) → osum (partsF rows as) = some c → 0 ≤ c ∧ c ≤ as.length * B
  | [], as, c, _, e => by
    cases e
    exact ⟨Int.le_refl _, Int.mul_nonneg (by omega) hB⟩
  | r :: rows, [], c, _, e => by
    cases e
    simp
  | r :: rows, a :: as, c, h, e => by
    have e' : oadd (r.getD a none) (osum (partsF rows as)) = some c := e
    cases e1 : r.getD a none with
    | none => rw [e1] at e'; cases e'
    | some u =>
      cases e2 : osum (partsF rows as) with
      | none => rw [e1, e2] at e'; cases e'
      | some v =>
        rw [e1, e2] at e'
        have e3 : u + v = c := Option.some.inj e'
        obtain ⟨h1, h2⟩ := parts_bnd hB (fun r hr => h r (List.mem_cons_of_mem _ hr)) e2
        have hm : some u ∈ r := by
          rw [List.getD_eq_getElem?_getD] at e1
          cases e4 : r[a]? with
          | none => rw [e4] at e1; cases e1
          | some y =>
            rw [e4] at e1
            obtain rfl : y = some u := e1
            exact List.mem_of_getElem? e4
        obtain ⟨h3, h4⟩ := h r (List.mem_cons_self ..) u hm
        rw [List.length_cons, Int.natCast_add, Int.add_mul]
        omega
theorem bnd_nn (j : Nat) : 0 ≤ bnd j := by
  have := bnd_mono (Nat.zero_le j)
  have e : bnd 0 = 0 := by decide
  omega
theorem bnd_succ (j : Nat) : bnd (j + 1) = 15 + 2 * bnd j := by
  unfold bnd
  rw [Int.pow_succ]
  omega
theorem cost_bnd {m : Mach} (h : DrM m) {rows : List Row} {j : Nat} (hb : ∀ r ∈ rows, Bnd j r) {i : Ins} (hi : i ∈ m.ins) {c : Int} (e : costF rows i = some c) : 0 ≤ c ∧ c ≤ 5 + 2 * bnd j := by
  obtain ⟨ok, p5⟩ := h.ins i hi
  have e' : oadd (some i.price) (osum (partsF rows i.args)) = some c := e
  cases e2 : osum (partsF rows i.args) with
  | none => rw [e2] at e'; cases e'
  | some v =>
    rw [e2] at e'
    have e3 : i.price + v = c := Option.some.inj e'
    obtain ⟨h1, h2⟩ := parts_bnd (bnd_nn j) hb e2
    have h3 := h.ar.h2 _ (List.mem_of_getElem? ok.op)
    have h4 : (i.args.length : Int) * bnd j ≤ 2 * bnd j := Int.mul_le_mul_of_nonneg_right (by omega) (bnd_nn j)
    have := ok.p0
    omega
theorem lrow_eq {m : Mach} (h : DrM m) {op : Nat} {rows : List Row} {j : Nat} (hj : j ≤ 9) (hl : m.ar[op]? = some rows.length) (hn : ∀ r ∈ rows, r.length = m.n) (hb : ∀ r ∈ rows, Bnd j r) : lrow m op rows = jrow m op rows ∧ Bnd (j + 1) (relS (jrow m op rows)) := by
  have mo := h.mok
  have ck := h.chk
  have b9 := bnd_mono hj
  have e9 : bnd 9 = 7665 := by decide
  have hbig : (100000 : Int) < big := by decide +kernel
  have n1 := h.n1
  have llen : (lrF m.n (lwof m.n m.cv) m.ins op rows).length = m.n := (lrF_lb (z := 0) (g := 0) n1 m.ins).1
  have val : ∀ g, g < m.n → ∀ v, (jrow m op rows).getD g none = some v → 0 ≤ v ∧ v ≤ bnd (j + 1) := fun g hg v hv => by
    obtain ⟨i, hi, _, hof⟩ := jrow_att mo.form mo.w hg hv
    unfold offer at hof
    cases ec : costF rows i with
    | none => rw [ec] at hof; cases hof
    | some c =>
      cases ew : mget (wof m.n m.cv) i.form g with
      | none => rw [ec, ew] at hof; cases hof
      | some w =>
        rw [ec, ew] at hof
        have e : c + w = v := Option.some.inj hof
        have h1 := cost_bnd h hb hi ec
        have h2 := ck.ok.nn _ _ _ (mo.form i hi) hg ew
        rw [bnd_succ]
        omega
  refine ⟨row_ext (by rw [jrow_len']; unfold lrow; rw [List.length_map, llen]) fun g hg => ?_, fun x hx => ?_⟩
  · unfold lrow at hg ⊢
    rw [List.length_map, llen] at hg
    have hx : ((lrF m.n (lwof m.n m.cv) m.ins op rows).map thr).getD g none = thr ((lrF m.n (lwof m.n m.cv) m.ins op rows).getD g none) := by
      rw [List.getD_eq_getElem?_getD, List.getD_eq_getElem?_getD, List.getElem?_map]
      cases (lrF m.n (lwof m.n m.cv) m.ins op rows)[g]? <;> rfl
    rw [hx]
    have L := fun z => (lrF_lb (lw := lwof m.n m.cv) (op := op) (rows := rows) (z := z) hg m.ins).2
    have J := fun z => jrow_lb mo.form mo.w (op := op) (rows := rows) hg z
    generalize (lrF m.n (lwof m.n m.cv) m.ins op rows).getD g none = x at L
    -- an offer below big is the law's too
    have up : ∀ z, z ≤ big → ∀ i ∈ m.ins, lb z (offer m rows g i) → lb z (oadd (costF rows i) (mget (lwof m.n m.cv) i.form g)) := fun z hz i hi q => by
      unfold offer at q
      cases ec : costF rows i with
      | none => exact lb_none z
      | some c =>
        cases ew : mget (wof m.n m.cv) i.form g with
        | some w => rw [(ck.yes _ _ _ (mo.form i hi) hg ew).1]; rw [ec, ew] at q; exact q
        | none =>
          obtain ⟨d, ed, hd⟩ := ck.no _ _ (mo.form i hi) hg ew
          have := (cost_bnd h hb hi ec).1
          rw [ed]
          exact lb_some.mpr (by omega)
    cases ej : (jrow m op rows).getD g none with
    | none =>
      rw [ej] at J
      have := (L big).mpr ⟨Int.le_refl _, fun i hi ho => up big (Int.le_refl _) i hi ((J big).mp (lb_none _) i hi ho)⟩
      cases x with
      | none => rfl
      | some u =>
        rw [lb_some] at this
        show (if u ≥ big then none else some u) = none
        rw [if_pos this]
    | some v =>
      have hv := val g hg v ej
      rw [bnd_succ] at hv
      rw [ej] at J
      have h1 := (L v).mpr ⟨by omega, fun i hi ho => up v (by omega) i hi ((J v).mp (lb_some.mpr (Int.le_refl _)) i hi ho)⟩
      have h2 : ¬ lb (v + 1) x := fun q => by
        have q2 := ((L (v + 1)).mp q).2
        obtain ⟨i, hi, ho, hof⟩ := jrow_att mo.form mo.w hg ej
        have q3 := q2 i hi ho
        unfold offer at hof
        cases ew : mget (wof m.n m.cv) i.form g with
        | none => rw [ew, oadd_none] at hof; cases hof
        | some w =>
          rw [(ck.yes _ _ _ (mo.form i hi) hg ew).1, ← ew, hof, lb_some] at q3
          omega
      cases x with
      | none => exact absurd (lb_none _) h2
      | some u =>
        rw [lb_some] at h1 h2
        obtain rfl : u = v := by omega
        show (if u ≥ big then none else some u) = some u
        rw [if_neg (by omega)]
  · cases hbs : baseF (jrow m op rows) with
    | none =>
      have := dead_relS.mpr (base_none.mp hbs) _ hx
      cases this
    | some b =>
      have hmin : ∀ y ∈ jrow m op rows, lb b y := lb_omin.mp (by rw [show omin (jrow m op rows) = some b from hbs]; exact lb_some.mpr (Int.le_refl _))
      have at2 : ∀ v, some v ∈ jrow m op rows → 0 ≤ v ∧ v ≤ bnd (j + 1) := fun v hv => by
        obtain ⟨g, hg, e⟩ := List.getElem_of_mem hv
        exact val g (by rw [jrow_len'] at hg; exact hg) v (by rw [List.getD_eq_getElem?_getD, List.getElem?_eq_getElem hg, e]; rfl)
      have hb0 := at2 b (omin_mem hbs)
      rw [(rel_shift hbs).2] at hx
      unfold shift at hx
      obtain ⟨y, hy, e⟩ := List.mem_map.mp hx
      cases y with
      | none => cases e
      | some v =>
        have e2 : v + -b = x := Option.some.inj e
        have h1 := at2 v hy
        have h2 := lb_some.mp (hmin _ hy)
        omega
end Cp
end

section
set_option Elab.async false
set_option linter.all false
set_option maxRecDepth 100000
set_option maxHeartbeats 4000000
namespace Cp
open PySem PySem.Spec PyProof.Rows L2
/-- a state and its tree -/
abbrev St2 := Row × List Nd
def dPr (p : St2) : PyData := .tuple [dS p.1, dT p.2]
theorem RD.pr {H : Hp} {v : V} {p : St2} (h : RD H v (dPr p)) : ∃ a x y, v = .ref a ∧ H a = some (.tup [x, y]) ∧ RD H x (dS p.1) ∧ RD H y (dT p.2) := by
  obtain ⟨a, xs, rfl, e, r⟩ := h.inv_tup
  cases r with
  | cons h1 r =>
    cases r with
    | cons h2 r =>
      cases r
      exact ⟨a, _, _, rfl, e, h1, h2⟩
theorem RD.rel {H : Hp} {v : V} {r : Row} (h : RD H v (dRel r)) : ∃ a x, v = .ref a ∧ H a = some (.tup [x, vO (baseF r)]) ∧ RD H x (dS (relS r)) := by
  obtain ⟨a, xs, rfl, e, q⟩ := h.inv_tup
  cases q with
  | cons h1 q =>
    cases q with
    | cons h2 q =>
      cases q
      cases h2.inv_o
      exact ⟨a, _, rfl, e, h1⟩
theorem list_shaped {ds : List PyData} {n : Nat} (h : PyData.canLayAll0 ds = true) (h2 : PyData.depthAll ds = n) (h3 : n < 64) : SeqAt.shaped (.list ds) = true := by
  show ((PyData.list ds).canLay0 && decide ((PyData.list ds).depth ≤ 64)) = true
  rw [PyData.canLay0, h, PyData.depth, h2, decide_eq_true (by omega)]
  rfl
theorem prs_mem {many op a : Nat} {st : Nd} (h : st ∈ prs many op a) : st.1 = op ∧ st.2.length = a ∧ ∀ x ∈ st.2, x < many := by
  unfold prs at h
  split at h
  · next e =>
    rw [List.mem_singleton.mp h]
    exact ⟨rfl, e.symm, by simp⟩
  · split at h
    · next e =>
      obtain ⟨o, ho, rfl⟩ := List.mem_map.mp h
      rw [List.mem_range] at ho
      refine ⟨rfl, e.symm, fun x hx => ?_⟩
      rw [List.mem_singleton.mp hx]
      exact ho
    · split at h
      · next e =>
        unfold prs2 at h
        simp only [List.mem_flatMap, List.mem_range, List.mem_map] at h
        obtain ⟨o, ho, o2, ho2, rfl⟩ := h
        refine ⟨rfl, e.symm, fun x hx => ?_⟩
        simp at hx
        omega
      · cases h
theorem pairsF_go {ar : List Nat} {k : Nat} {st : Nd} : ∀ {i : Nat}, i ≤ ar.length → (st ∈ itn (fun op acc => acc ++ prs k op (ar.getD op 0)) i [] ↔ ∃ op a, op < i ∧ ar[op]? = some a ∧ st ∈ prs k op a)
  | 0, _ => by simp [itn]
  | i + 1, hi => by
    have ih := pairsF_go (ar := ar) (k := k) (st := st) (i := i) (by omega)
    have hg : ar[i]? = some (ar.getD i 0) := by
      rw [List.getD_eq_getElem?_getD, List.getElem?_eq_getElem (by omega)]
      rfl
    show st ∈ _ ++ _ ↔ _
    rw [List.mem_append, ih]
    constructor
    · rintro (⟨op, a, h1, h2, h3⟩ | h)
      · exact ⟨op, a, by omega, h2, h3⟩
      · exact ⟨i, _, by omega, hg, h⟩
    · rintro ⟨op, a, h1, h2, h3⟩
      by_cases e : op = i
      · subst e
        rw [hg] at h2
        cases h2
        exact .inr h3
      · exact .inl ⟨op, a, by omega, h2, h3⟩
theorem pairsF_iff {ar : List Nat} {k : Nat} {st : Nd} : st ∈ pairsF ar k ↔ ∃ op a, ar[op]? = some a ∧ st ∈ prs k op a := by
  unfold pairsF
  rw [pairsF_go (Nat.le_refl _)]
  constructor
  · rintro ⟨op, a, _, h2, h3⟩
    exact ⟨op, a, h2, h3⟩
  · rintro ⟨op, a, h2, h3⟩
    exact ⟨op, a, (List.getElem?_eq_some_iff.mp h2).1, h2, h3⟩
/-- all pairs done: all reachable states are there -/
theorem closed_pairs {m : Mach} (ha : ∀ a ∈ m.ar, a ≤ 2) {ss : List Row} (h : ∀ st ∈ pairsF m.ar ss.length, Proc m ss st) : ∀ s, Rch m s → s ∈ ss := by
  refine closed_all ha fun k hk st hst => h st ?_
  obtain ⟨op, a, h1, h2⟩ := stepsF_iff.mp hst
  refine pairsF_iff.mpr ⟨op, a, h1, ?_⟩
  obtain ⟨h3, h4, h5⟩ := step1_mem h2
  have hal := ha _ (List.mem_of_getElem? h1)
  obtain ⟨s1, s2⟩ := st
  simp only at h3 h4 h5
  subst h3
  match s2, h4, h5 with
  | [], h4, _ =>
    subst h4
    simp [prs]
  | [x], h4, h5 =>
    subst h4
    have := h5 x (by simp)
    simp [prs]
    omega
  | [x, y], h4, h5 =>
    subst h4
    have h6 := h5 x (by simp)
    have h7 := h5 y (by simp)
    simp [prs, prs2]
    omega
  | _ :: _ :: _ :: _, h4, _ => simp at h4; omega
section
variable {P : Program} {w : World} {K : PySem.W.Frag} {mg : Str → Option Value} {base : Heap}
def sp_law_order : Sp := fun vs H Q _ => ∃ (v : V) (m : Mach), vs = [v, .int 8] ∧ RD H v (dM m) ∧ DrM m ∧ (∀ H', Ex H H' → Q .non H') ∧
  ∀ (l : Addr) (xs : List V) (ss : List Row) (H' : Hp), Ex H H' → H' l = some (.lst xs) → ss.length ≤ 8 → (∀ s, Rch m s → s ∈ ss) → Q (.ref l) H'
theorem ok_law_order (T : Tx mg) (D : Def K mg "_law_order" s_law_order) (C_law_ways : Cal P w K mg base CX0 "_law_ways" 1 ["_law_machine_here"] sp_law_ways) (C_law_pairs : Cal P w K mg base CX0 "_law_pairs" 1 ["_law_machine_here", "_law_many"] sp_law_pairs)
    (C_law_row : Cal P w K mg base CX0 "_law_row" 1 ["_law_machine_here", "_law_ways_here", "_law_operator", "_law_rows"] (sp_law_row K)) (C_law_rel : Cal P w K mg base CX0 "_law_rel" 1 ["_law_row_here"] sp_law_rel) (C_law_over : Cal P w K mg base CX0 "_law_over" 1 ["_law_operator", "_law_trees"] (sp_law_over K)) :
    Cal P w K mg base CX0 "_law_order" 2 ["_law_machine_here", "_law_most"] sp_law_order := by
  obtain ⟨f, fd, F, hm⟩ := D.ex
  refine ⟨f, fd, F.ok sc_law_order (fun vs H Q E h => ?_) (fun cdv A outer s H vs Q E hr h => ?_), hm, F.kp, F.binds fun _ _ _ _ _ _ us hl => match us, hl with | [_, _], _ => rfl⟩
  · obtain ⟨v, m, rfl, _⟩ := h
    rfl
  · obtain ⟨v, m, rfl, hM, dm, qn, q⟩ := h
    have ok := dm.ok
    refine ⟨_, (pss_cons (ps_asg (pe_tup (pa_cons (pe_cal C_law_ways (by first | exact hr | exact hr.mono (by decide)) (by rfl) pass0 (pa_cons (pv 0) pa_nil)) (pa_cons (pe_lst pa_nil) (pa_cons (pe_lst pa_nil) (pa_cons pe_bl pa_nil))))) (kg_tup K (n := 4) rfl (pgs_cons (pg_name (i := 2) sc_law_order.nd rfl (by first | exact .inl rfl | exact .inr rfl)) (pgs_cons (pg_name (i := 3) sc_law_order.nd rfl (by first | exact .inl rfl | exact .inr rfl)) (pgs_cons (pg_name (i := 4) sc_law_order.nd rfl (by first | exact .inl rfl | exact .inr rfl)) (pgs_cons (pg_name (i := 5) sc_law_order.nd rfl (by first | exact .inl rfl | exact .inr rfl)) pgs_nil))))))
  (pss_cons (ps_while PassesOwn.never (pt_val (pv 5))
  (pss_cons (ps_set (i := 5) sc_law_order.nd rfl (by first | exact .inl rfl | exact .inr rfl) pe_bl)
  (pss_one (ps_for PassesOwn.never rfl (ki_list K (pe_cal C_law_pairs (by first | exact hr | exact hr.mono (by decide)) (by rfl) pass0 (pa_cons (pv 0) (pa_cons (pe_callB (kc_len K) (by rfl) T.len boot_len (pa_cons (pv 3) pa_nil)) pa_nil)))) (kg_tup K (n := 2) rfl (pgs_cons (pg_name (i := 6) sc_law_order.nd rfl (by first | exact .inl rfl | exact .inr rfl)) (pgs_cons (pg_name (i := 7) sc_law_order.nd rfl (by first | exact .inl rfl | exact .inr rfl)) pgs_nil)))
  (pss_cons (ps_set (i := 8) sc_law_order.nd rfl (by first | exact .inl rfl | exact .inr rfl) (pe_ix (kx_tup K) (pe_cal C_law_rel (by first | exact hr | exact hr.mono (by decide)) (by rfl) pass0 (pa_cons (pe_cal C_law_row (by first | exact hr | exact hr.mono (by decide)) (by rfl) pass0 (pa_cons (pv 0) (pa_cons (pv 2) (pa_cons (pv 6) (pa_cons (pe_lc (own := [("_law_number", 10)]) rfl sc_law_order.nd (ki_tup K (pv 7)) (blkOk_by (own := [("_law_number", 10)]) (N := ["_law_machine_here", "_law_most", "_law_ways_here", "_law_found", "_law_known", "_law_grown", "_law_operator", "_law_numbers", "_law_state", "_law_tree_here", "_law_number"]) (sc := defScope s_law_order) (by decide +kernel)) (fun _ _ _ _ _ => (pg_name (i := 10) sc_law_order.nd rfl (by first | exact .inl rfl | exact .inr rfl))) (fun _ _ _ _ _ => pts_nil) (fun _ _ _ _ _ => (pe_ix (kx_list K) (pv 4) (pv 10) (fun _ _ => rfl)))) pa_nil))))) pa_nil)) pe_int (fun _ _ => rfl)))
  (pss_one (ps_if (pt_cmpR (op_notInD (hu65 hr)) (pv 8) (pv 4) (by rfl)) (pss_cons (ps_set (i := 9) sc_law_order.nd rfl (by first | exact .inl rfl | exact .inr rfl) (pe_cal C_law_over (by first | exact hr | exact hr.mono (by decide)) (by rfl) pass0 (pa_cons (pv 6) (pa_cons (pe_lc (own := [("_law_number", 10)]) rfl sc_law_order.nd (ki_tup K (pv 7)) (blkOk_by (own := [("_law_number", 10)]) (N := ["_law_machine_here", "_law_most", "_law_ways_here", "_law_found", "_law_known", "_law_grown", "_law_operator", "_law_numbers", "_law_state", "_law_tree_here", "_law_number"]) (sc := defScope s_law_order) (by decide +kernel)) (fun _ _ _ _ _ => (pg_name (i := 10) sc_law_order.nd rfl (by first | exact .inl rfl | exact .inr rfl))) (fun _ _ _ _ _ => pts_nil) (fun _ _ _ _ _ => (pe_ix (kx_tup K) (pe_ix (kx_list K) (pv 3) (pv 10) (fun _ _ => rfl)) pe_int (fun _ _ => rfl)))) pa_nil))))
  (pss_cons (ps_expr (pe_bm PySem.F.plainAttrs_list PySem.F.slot_list_append PySem.F.type_list_append mt_append (pv 3) (pa_cons (pe_tup (pa_cons (pv 8) (pa_cons (pv 9) pa_nil))) pa_nil)))
  (pss_cons (ps_expr (pe_bm PySem.F.plainAttrs_list PySem.F.slot_list_append PySem.F.type_list_append mt_append (pv 4) (pa_cons (pv 8) pa_nil)))
  (pss_cons (ps_set (i := 5) sc_law_order.nd rfl (by first | exact .inl rfl | exact .inr rfl) pe_bl)
  (pss_one (ps_if (pt_cmpR op_gt (pe_callB (kc_len K) (by rfl) T.len boot_len (pa_cons (pv 3) pa_nil)) (pv 1) (nomark _)) (pss_one (ps_ret pe_non)) pss_nil)))))) pss_nil)))))))
  (pss_one (ps_ret (pv 3))))), ?_⟩
    refine ⟨_, rfl, v, m, rfl, hM, ok, fun aw as H0 ex0 hW hdW _ => ?_⟩
    refine ⟨by simp, fun fn hfn => ⟨by simp, fun kn hkn => ⟨by simp [sizeLine], fun t ht => ?_⟩⟩⟩
    have e1 := (Ex.new (o := .lst []) hfn).newT (o := .lst []) hkn
    have e2 := e1.newT (o := .tup [.ref aw, .ref fn, .ref kn, .bl true]) ht
    have hff : upd (upd (upd H0 fn (.lst [])) kn (.lst [])) t (.tup [.ref aw, .ref fn, .ref kn, .bl true]) fn = some (.lst []) := Ex.new ht _ _ (Ex.new hkn _ _ upd_same)
    have hkk : upd (upd (upd H0 fn (.lst [])) kn (.lst [])) t (.tup [.ref aw, .ref fn, .ref kn, .bl true]) kn = some (.lst []) := Ex.new ht _ _ upd_same
    have htt : upd (upd (upd H0 fn (.lst [])) kn (.lst [])) t (.tup [.ref aw, .ref fn, .ref kn, .bl true]) t = some (.tup [.ref aw, .ref fn, .ref kn, .bl true]) := upd_same
    have nfk : fn ≠ kn := fun e => by rw [← e, upd_same] at hkn; cases hkn
    have hk0 : H0 kn = none := (Ex.new hfn).free hkn
    generalize upd (upd (upd H0 fn (.lst [])) kn (.lst [])) t (.tup [.ref aw, .ref fn, .ref kn, .bl true]) = H1 at e2 hff hkk htt
    refine ⟨t, _, rfl, .of htt, rfl, _, _, rfl, _, _, rfl, _, _, rfl, _, _, rfl, rfl, ?_⟩
    refine ⟨fun mm σ H' => ∃ (g : Bool) (ps : List St2), (∃ x6 x7 x8 x9 x10, σ = [some v, some (.int 8), some (.ref aw), some (.ref fn), some (.ref kn), some (.bl g), x6, x7, x8, x9, x10]) ∧ Ex H0 H' ∧ (∃ ks, H' kn = some (.lst ks) ∧ RDs H' ks ((ps.map (·.1)).map dS)) ∧ (∃ fs, H' fn = some (.lst fs) ∧ RDs H' fs (ps.map dPr)) ∧
      ps.length ≤ 8 ∧ (∀ p ∈ ps, Rch m p.1 ∧ Bnd ps.length p.1 ∧ TrSz p.2 ∧ p.2.length ≤ 2 ^ (ps.length + 1) - 1) ∧ (g = false → ∀ st ∈ pairsF m.ar ps.length, Proc m (ps.map (·.1)) st) ∧ mm = if g = true then 20 - ps.length else 0,
      ⟨_, true, [], ⟨_, _, _, _, _, rfl⟩, e2, ⟨[], hkk, .nil⟩, ⟨[], hff, .nil⟩, by simp, by simp, fun z => (by cases z), rfl⟩, ?_⟩
    rintro mm σ H2 ⟨g, ps, ⟨x6, x7, x8, x9, x10, rfl⟩, ex2, ⟨ks, hks, rks⟩, ⟨fs, hfs, rfs⟩, h8, hps, hcl, rfl⟩
    refine ⟨_, rfl, g, rfl, ?_⟩
    have exH2 := ex0.trans ex2
    have fl : fs.length = ps.length := by rw [rfs.length, List.length_map]
    cases g with
    | false =>
      refine itF Bool.false_ne_true ?_
      refine ⟨_, rfl, q fn fs (ps.map (·.1)) H2 exH2 hfs (by rw [List.length_map]; exact h8) (closed_pairs ok.a2 ?_)⟩
      rw [List.length_map]
      exact hcl rfl
    | true =>
      refine itT rfl ?_
      refine ⟨fun σ' H' => ∃ (g : Bool) (ps' : List St2), (∃ x6 x7 x8 x9 x10, σ' = [some v, some (.int 8), some (.ref aw), some (.ref fn), some (.ref kn), some (.bl g), x6, x7, x8, x9, x10]) ∧ Ex H0 H' ∧ (∃ ks, H' kn = some (.lst ks) ∧ RDs H' ks ((ps'.map (·.1)).map dS)) ∧ (∃ fs, H' fn = some (.lst fs) ∧ RDs H' fs (ps'.map dPr)) ∧
        ps'.length ≤ 8 ∧ (∀ p ∈ ps', Rch m p.1 ∧ Bnd ps'.length p.1 ∧ TrSz p.2 ∧ p.2.length ≤ 2 ^ (ps'.length + 1) - 1) ∧ (g = false → ∀ st ∈ pairsF m.ar ps'.length, Proc m (ps'.map (·.1)) st) ∧ (g = true → ps.length < ps'.length), fun σ' H' ⟨g, ps', h1, h2, h3, h4, h5, h6, h7, h9⟩ => ?_, ?_⟩
      · cases g with
        | false => exact ⟨0, by rw [if_pos rfl]; omega, false, ps', h1, h2, h3, h4, h5, h6, h7, rfl⟩
        | true =>
          have := h9 rfl
          exact ⟨20 - ps'.length, by rw [if_pos rfl]; omega, true, ps', h1, h2, h3, h4, h5, h6, h7, rfl⟩
      · -- a round
        refine ⟨_, rfl, _, rfl, fn, fs, rfl, .inl (.of hfs), v, m, ps.length, by rw [← fl]; rfl, hM.ex exH2, ok, by omega, fun ls sx H3 hls ex3 hls3 rsx => ?_⟩
        have nlf : ls ≠ fn := fun e => by rw [e, hfs] at hls; cases hls
        have nlk : ls ≠ kn := fun e => by rw [e, hks] at hls; cases hls
        refine ⟨ls, rfl, ⟨sx, .of hls3⟩, ?_⟩
        refine for_it (walk_list (xs := sx)) (fun i σ H' => ∃ (g : Bool) (ps' : List St2), (∃ x6 x7 x8 x9 x10, σ = [some v, some (.int 8), some (.ref aw), some (.ref fn), some (.ref kn), some (.bl g), x6, x7, x8, x9, x10]) ∧ Ex H0 H' ∧ H' ls = some (.lst sx) ∧ RDs H' sx ((pairsF m.ar ps.length).map dStp) ∧ (∃ ks, H' kn = some (.lst ks) ∧ RDs H' ks ((ps'.map (·.1)).map dS)) ∧ (∃ fs, H' fn = some (.lst fs) ∧ RDs H' fs (ps'.map dPr)) ∧
          ps'.length ≤ 8 ∧ (∀ p ∈ ps', Rch m p.1 ∧ Bnd ps'.length p.1 ∧ TrSz p.2 ∧ p.2.length ≤ 2 ^ (ps'.length + 1) - 1) ∧ ps.length ≤ ps'.length ∧ (g = false → ps'.length = ps.length ∧ ∀ st ∈ (pairsF m.ar ps.length).take i, Proc m (ps'.map (·.1)) st) ∧ (g = true → ps.length < ps'.length))
          ⟨false, ps, ⟨_, _, _, _, _, rfl⟩, ex2.trans ex3, hls3, rsx, ⟨ks, ex3 _ _ hks, rks.ex ex3⟩, ⟨fs, ex3 _ _ hfs, rfs.ex ex3⟩, h8, hps, Nat.le_refl _, fun _ => ⟨rfl, by simp⟩, fun z => (by cases z)⟩ (fun i σ H' _ ⟨_, _, _, _, hP, _⟩ => .of hP) (fun i x σ _ H4 hi hP hy => ?_) (fun σ H4 hP => ?_)
        · obtain ⟨rfl, hx⟩ := hy
          obtain ⟨g, ps', ⟨x6, x7, x8, x9, x10, rfl⟩, ex4, hls4, rsx4, ⟨ks4, hks4, rks4⟩, ⟨fs4, hfs4, rfs4⟩, h84, hps4, hpl, hg0, hg1⟩ := hP
          have exH4 := ex0.trans ex4
          have kl : ks4.length = ps'.length := by rw [rks4.length, List.length_map, List.length_map]
          have fl4 : fs4.length = ps'.length := by rw [rfs4.length, List.length_map]
          obtain ⟨st, hst, rst⟩ := rds_at rsx4 hx
          obtain ⟨pst, pb, rfl, hpst, hpb⟩ := rst.stp
          obtain ⟨op, ar1, har, hst1⟩ := pairsF_iff.mp (List.mem_of_getElem? hst)
          obtain ⟨h1, h2, h3⟩ := prs_mem hst1
          have ha2 := ok.a2 _ (List.mem_of_getElem? har)
          have hidx : ∀ a ∈ st.2, a < ps'.length := fun a ha => by have := h3 a ha; omega
          refine ⟨pst, _, rfl, .of hpst, rfl, _, _, rfl, _, _, rfl, rfl, ?_⟩
          generalize hss : ps'.map (·.1) = ss at *
          have lss : ss.length = ps'.length := by rw [← hss, List.length_map]
          -- the rows
          refine ⟨_, rfl, _, rfl, _, rfl, _, rfl, pb, rfl, ⟨_, .of hpb⟩, fun ag hag => ?_⟩
          refine lc_it (walk_tup (xs := st.2.map vN)) (fun j H' => Ex H4 H' ∧ ∃ zs, H' ag = some (.lst zs) ∧ RDs H' zs (((st.2.map fun a => ss.getD a []).take j).map dS)) ⟨Ex.new hag, [], upd_same, .nil⟩ (fun j H' _ hP => .of (hP.1 _ _ hpb)) (fun j x _ H5 hj hP hy => ?_) (fun H5 hP => ?_)
          · obtain ⟨rfl, hxj⟩ := hy
            obtain ⟨ex5, zs, hzs, rzs⟩ := hP
            rw [List.length_map] at hj
            rw [List.getElem?_map, List.getElem?_eq_getElem hj] at hxj
            cases hxj
            have hj2 := hidx st.2[j] (List.getElem_mem hj)
            obtain ⟨x2, hx2, rx2⟩ := (rks4.ex ex5).at (i := st.2[j]) (d := dS (ss.getD st.2[j] [])) (by rw [List.getElem?_map, List.getElem?_eq_getElem (by omega), getD_at (List.getElem?_eq_getElem (show st.2[j] < ss.length by omega))]; rfl)
            have tu := Tu.lst (o := .lst (zs ++ [x2])) hzs
            refine ⟨rfl, _, rfl, _, rfl, kn, ks4, _, _, rfl, rfl, .of (ex5 _ _ hks4), atI_nat hx2, zs, hzs, by rw [rzs.length, List.length_map, List.length_take, List.length_map]; simp [sizeLine]; omega, ex5.mut hag, _, upd_same, ?_⟩
            rw [List.take_succ, List.getElem?_map, List.getElem?_eq_getElem hj, List.map_append]
            exact (rzs.tu tu).app (.cons (rx2.tu tu) .nil)
          · obtain ⟨ex5, zs, hzs, rzs⟩ := hP
            rw [List.take_of_length_le (by simp)] at rzs
            have hrow : ∀ r ∈ st.2.map (fun a => ss.getD a []), Rch m r ∧ Bnd ps'.length r := fun r hr => by
              obtain ⟨a, ha, rfl⟩ := List.mem_map.mp hr
              have h1 := hidx a ha
              rw [getD_at (x := ps'[a].1) (by rw [← hss, List.getElem?_map, List.getElem?_eq_getElem h1]; rfl)]
              have := hps4 _ (List.getElem_mem h1)
              exact ⟨this.1, this.2.1⟩
            have har2 : m.ar[st.1]? = some (st.2.map fun a => ss.getD a []).length := by rw [List.length_map, h1, h2]; exact har
            obtain ⟨eqr, bnr⟩ := lrow_eq dm (op := st.1) (rows := st.2.map fun a => ss.getD a []) (by omega) har2 (fun r hr => (hrow r hr).1.len) fun r hr => (hrow r hr).2
            have hnew : Rch m (relS (jrow m st.1 (st.2.map fun a => ss.getD a []))) := .step _ _ har2 fun r hr => (hrow r hr).1
            refine ⟨v, aw, as, m, st.1, ag, zs, _, rfl, hM.ex (exH4.trans ex5), ok, hW.ex (ex4.trans ex5), .of hzs, rzs, fun r hr => (hrow r hr).1.len, fun v1 H6 ex6 hv1 => ?_⟩
            rw [eqr] at hv1
            refine ⟨v1, _, rfl, hv1, by rw [jrow_len]; have := ok.n4; omega, fun v2 H7 ex7 hv2 => ?_⟩
            have ex47 := (ex5.trans ex6).trans ex7
            have ex07 := ex4.trans ex47
            generalize hs : relS (jrow m st.1 (st.2.map fun a => ss.getD a [])) = sN at *
            obtain ⟨pv, sv, rfl, hpv, r1⟩ := hv2.rel
            rw [hs] at r1
            refine ⟨pv, _, _, _, rfl, rfl, .of hpv, rfl, ?_⟩
            have hks7 := ex47 _ _ hks4
            have hfs7 := ex47 _ _ hfs4
            have rks7 := rks4.ex ex47
            have rfs7 := rfs4.ex ex47
            refine ⟨_, rfl, _, rfl, dS sN, ss.map dS, r1.dp, .lst (.of hks7) rks7.dp, dS_shaped sN, list_shaped (n := PyData.depthAll (ss.map dS)) (states_lay _) rfl (by have := states_depth ss; omega), _, rfl, ?_⟩
            rw [states_any]
            by_cases hin : sN ∈ ss
            · refine itF (by simp [hin]) ?_
              refine ⟨g, ps', ⟨_, _, _, _, _, rfl⟩, ex07, ex47 _ _ hls4, rsx4.ex ex47, ⟨ks4, hks7, by rw [hss]; exact rks7⟩, ⟨fs4, hfs7, rfs7⟩, h84, hps4, hpl, fun z => ⟨(hg0 z).1, ?_⟩, hg1⟩
              rw [hss]
              intro st2 hst2
              rw [List.take_succ, hst] at hst2
              rcases List.mem_append.mp hst2 with h | h
              · exact (hg0 z).2 st2 h
              · obtain rfl : st2 = st := by simpa using h
                exact ⟨by rw [lss]; exact hidx, by rw [hs]; exact hin⟩
            · refine itT (by simp [hin]) ?_
              -- the tree
              refine ⟨_, rfl, _, rfl, pb, rfl, ⟨_, .of (ex47 _ _ hpb)⟩, fun tg htg => ?_⟩
              refine lc_it (walk_tup (xs := st.2.map vN)) (fun j H' => Ex H7 H' ∧ ∃ zs, H' tg = some (.lst zs) ∧ RDs H' zs (((st.2.map fun a => (ps'.getD a ([], [])).2).take j).map dT)) ⟨Ex.new htg, [], upd_same, .nil⟩ (fun j H' _ hP => .of (hP.1 _ _ (ex47 _ _ hpb))) (fun j x _ H8 hj hP hy => ?_) (fun H8 hP => ?_)
              · obtain ⟨rfl, hxj⟩ := hy
                obtain ⟨ex8, zs, hzs, rzs⟩ := hP
                rw [List.length_map] at hj
                rw [List.getElem?_map, List.getElem?_eq_getElem hj] at hxj
                cases hxj
                have hj2 := hidx st.2[j] (List.getElem_mem hj)
                obtain ⟨x2, hx2, rx2⟩ := (rfs7.ex ex8).at (i := st.2[j]) (d := dPr (ps'.getD st.2[j] ([], []))) (by rw [List.getElem?_map, List.getElem?_eq_getElem hj2, getD_at (List.getElem?_eq_getElem hj2)]; rfl)
                obtain ⟨pq, y1, y2, rfl, hpq, _, ry2⟩ := rx2.pr
                have tu := Tu.lst (o := .lst (zs ++ [y2])) hzs
                refine ⟨rfl, _, rfl, _, rfl, fn, fs4, _, _, rfl, rfl, .of (ex8 _ _ hfs7), atI_nat hx2, pq, _, _, _, rfl, rfl, .of hpq, rfl, zs, hzs, by rw [rzs.length, List.length_map, List.length_take, List.length_map]; simp [sizeLine]; omega, ex8.mut htg, _, upd_same, ?_⟩
                rw [List.take_succ, List.getElem?_map, List.getElem?_eq_getElem hj, List.map_append]
                exact (rzs.tu tu).app (.cons (ry2.tu tu) .nil)
              · obtain ⟨ex8, zs, hzs, rzs⟩ := hP
                rw [List.take_of_length_le (by simp)] at rzs
                have hpt : ∀ t ∈ st.2.map (fun a => (ps'.getD a ([], [])).2), TrSz t ∧ t.length ≤ 2 ^ (ps'.length + 1) - 1 := fun t ht => by
                  obtain ⟨a, ha, rfl⟩ := List.mem_map.mp ht
                  have h1 := hidx a ha
                  rw [getD_at (List.getElem?_eq_getElem h1)]
                  have := hps4 _ (List.getElem_mem h1)
                  exact ⟨this.2.2.1, this.2.2.2⟩
                have hsum : sumL (st.2.map fun a => (ps'.getD a ([], [])).2) ≤ 2 * (2 ^ (ps'.length + 1) - 1) := by
                  have h5 : st.2.length ≤ 2 := by omega
                  unfold sumL
                  match st.2, h5, hpt with
                  | [], _, _ => simp
                  | [a], _, hpt =>
                    have := (hpt (ps'.getD a ([], [])).2 (List.mem_cons_self ..)).2
                    simp at this ⊢
                    omega
                  | [a, b], _, hpt =>
                    have h6 := (hpt (ps'.getD a ([], [])).2 (by simp)).2
                    have h7 := (hpt (ps'.getD b ([], [])).2 (by simp)).2
                    simp at h6 h7 ⊢
                    omega
                  | _ :: _ :: _ :: _, h5, _ => simp at h5
                have h512 : 2 ^ (ps'.length + 1) ≤ 512 := Nat.pow_le_pow_right (by omega) (by omega : ps'.length + 1 ≤ 9)
                refine ⟨st.1, tg, zs, _, rfl, .of hzs, rzs, fun t ht => (hpt t ht).1, by rw [List.length_map]; omega, by omega, fun tN v3 H9 ex9 tsz tlen hv3 => ?_⟩
                have ex79 := ex8.trans ex9
                have hfs9 := ex79 _ _ hfs7
                have r19 := r1.ex ex79
                refine ⟨_, rfl, .inl ⟨rfl, fs4, .of hfs9⟩, ?_⟩
                refine ⟨_, rfl, _, rfl, by simp [sizeLine], fun u hu => ?_⟩
                have exu := Ex.new (o := .tup [sv, v3]) hu
                have huu : upd H9 u (.tup [sv, v3]) u = some (.tup [sv, v3]) := upd_same
                have hfs10 := exu _ _ hfs9
                have tu := Tu.lst (o := .lst (fs4 ++ [.ref u])) hfs10
                refine ⟨fn, fs4, _, rfl, rfl, hfs10, by simp only [sizeLine]; omega, ?_⟩
                have ex710 := ex79.trans exu
                have hpr : RD (upd (upd H9 u (.tup [sv, v3])) fn (.lst (fs4 ++ [.ref u]))) (.ref u) (dPr (sN, tN)) := (RD.tup (ds := [dS sN, dT tN]) huu (.cons (r19.ex exu) (.cons (hv3.ex exu) .nil))).tu tu
                have rfs11 : RDs (upd (upd H9 u (.tup [sv, v3])) fn (.lst (fs4 ++ [.ref u]))) (fs4 ++ [.ref u]) ((ps' ++ [(sN, tN)]).map dPr) := by
                  rw [List.map_append]
                  exact ((rfs7.ex ex710).tu tu).app (.cons hpr .nil)
                have hks11 : upd (upd H9 u (.tup [sv, v3])) fn (.lst (fs4 ++ [.ref u])) kn = some (.lst ks4) := by
                  rw [upd_ne (Ne.symm nfk)]
                  exact ex710 _ _ hks7
                have hls11 : upd (upd H9 u (.tup [sv, v3])) fn (.lst (fs4 ++ [.ref u])) ls = some (.lst sx) := by
                  rw [upd_ne nlf]
                  exact ex710 _ _ (ex47 _ _ hls4)
                have hfs11 : upd (upd H9 u (.tup [sv, v3])) fn (.lst (fs4 ++ [.ref u])) fn = some (.lst (fs4 ++ [.ref u])) := upd_same
                have rks11 := (rks7.ex ex710).tu tu
                have r111 := (r19.ex exu).tu tu
                have rsx11 := ((rsx4.ex ex47).ex ex710).tu tu
                have ex11 := (ex07.trans ex710).mut (o := .lst (fs4 ++ [.ref u])) hfn
                generalize upd (upd H9 u (.tup [sv, v3])) fn (.lst (fs4 ++ [.ref u])) = H11 at rfs11 hks11 hls11 hfs11 rks11 r111 rsx11 ex11
                -- known.append
                refine ⟨_, rfl, .inl ⟨rfl, ks4, .of hks11⟩, ?_⟩
                refine ⟨_, rfl, kn, ks4, _, rfl, rfl, hks11, by simp only [sizeLine]; omega, ?_⟩
                have tuk := Tu.lst (o := .lst (ks4 ++ [sv])) hks11
                have ex12 := ex11.mut (o := .lst (ks4 ++ [sv])) hk0
                have hfs12 : upd H11 kn (.lst (ks4 ++ [sv])) fn = some (.lst (fs4 ++ [.ref u])) := by rw [upd_ne nfk]; exact hfs11
                have hls12 : upd H11 kn (.lst (ks4 ++ [sv])) ls = some (.lst sx) := by rw [upd_ne nlk]; exact hls11
                have hks12 : upd H11 kn (.lst (ks4 ++ [sv])) kn = some (.lst (ks4 ++ [sv])) := upd_same
                have hss2 : (ps' ++ [(sN, tN)]).map (·.1) = ss ++ [sN] := by rw [List.map_append, hss]; rfl
                have rks12 : RDs (upd H11 kn (.lst (ks4 ++ [sv]))) (ks4 ++ [sv]) (((ps' ++ [(sN, tN)]).map (·.1)).map dS) := by
                  rw [hss2, List.map_append]
                  exact (rks11.tu tuk).app (.cons (r111.tu tuk) .nil)
                have rfs12 := rfs11.tu tuk
                have rsx12 := rsx11.tu tuk
                generalize upd H11 kn (.lst (ks4 ++ [sv])) = H12 at ex12 hfs12 hls12 hks12 rks12 rfs12 rsx12
                refine ⟨_, rfl, fn, _, rfl, .inl (.of hfs12), _, rfl, _, _, rfl, rfl, _, rfl, ?_⟩
                by_cases hmany : ps'.length + 1 ≤ 8
                · refine itF (fun z => by have := of_decide_eq_true z; rw [List.length_append, fl4] at this; simp at this; omega) ?_
                  have nl : (ps' ++ [(sN, tN)]).length = ps'.length + 1 := by simp
                  refine ⟨true, ps' ++ [(sN, tN)], ⟨_, _, _, _, _, rfl⟩, ex12, hls12, rsx12, ⟨_, hks12, rks12⟩, ⟨_, hfs12, rfs12⟩, by rw [nl]; exact hmany, fun p hp => ?_, by rw [nl]; omega, fun z => (by cases z), fun _ => by rw [nl]; omega⟩
                  rw [nl]
                  have hpow : 2 ^ (ps'.length + 1 + 1) = 2 * 2 ^ (ps'.length + 1) := by rw [Nat.pow_succ]; omega
                  have hpos : 1 ≤ 2 ^ (ps'.length + 1) := Nat.one_le_two_pow
                  rcases List.mem_append.mp hp with hp | hp
                  · obtain ⟨g1, g2, g3, g4⟩ := hps4 p hp
                    exact ⟨g1, g2.mono (by omega), g3, by omega⟩
                  · rw [List.mem_singleton.mp hp]
                    exact ⟨hnew, bnr, tsz, by show tN.length ≤ _; omega⟩
                · refine itT (decide_eq_true (by rw [List.length_append, fl4]; simp; omega)) ?_
                  exact qn H12 (ex0.trans ex12)
        · obtain ⟨g, ps', hσ, ex4, hls4, rsx4, hk4, hf4, h84, hps4, hpl, hg0, hg1⟩ := hP
          refine ⟨g, ps', hσ, ex4, hk4, hf4, h84, hps4, fun z => ?_, hg1⟩
          obtain ⟨z1, z2⟩ := hg0 z
          rw [List.take_of_length_le (by have := rsx4.length; rw [List.length_map] at this; omega)] at z2
          rw [z1]
          exact z2
end
end Cp
end

section
set_option Elab.async false
set_option linter.all false
set_option maxRecDepth 100000
/-! the classes are those of the trees -/
namespace Cp
theorem EqT_W {m W : Mach} (h : DrM m) (w : Wid m W) {t u : T} : EqT W t u ↔ EqT m t u := by
  unfold EqT
  constructor
  · rintro ⟨k, q⟩
    refine ⟨k, fun D hD => ?_⟩
    rw [← goT_W h w, ← goT_W h w]
    exact q D fun c hc => (VCt_W w).mpr (hD c hc)
  · rintro ⟨k, q⟩
    refine ⟨k, fun D hD => ?_⟩
    rw [goT_W h w, goT_W h w]
    exact q D fun c hc => (VCt_W w).mp (hD c hc)
theorem sts_of {m : Mach} {order : List Ent} (o : OrdOk m order) : Sts m (order.map (·.1)) :=
  ⟨o.nd, fun s hs => by
    obtain ⟨e, he, rfl⟩ := List.mem_map.mp hs
    exact o.rch e he, o.all⟩
theorem fst_inj {g : List (Nat × List Row)} (nd : (g.map (·.1)).Nodup) {p q : Nat × List Row} (hp : p ∈ g) (hq : q ∈ g) (e : p.1 = q.1) : p = q := by
  induction g with
  | nil => cases hp
  | cons x g ih =>
    rw [List.map_cons, List.nodup_cons] at nd
    rcases List.mem_cons.mp hp with h1 | h1
    · rcases List.mem_cons.mp hq with h2 | h2
      · rw [h1, h2]
      · exact absurd (List.mem_map.mpr ⟨q, h2, by rw [← e, h1]⟩) nd.1
    · rcases List.mem_cons.mp hq with h2 | h2
      · exact absurd (List.mem_map.mpr ⟨p, h1, by rw [e, h2]⟩) nd.1
      · exact ih nd.2 h1 h2
theorem clsF_iff {ss : List Row} {part : Row → Nat} {g : List (Nat × List Row)} (G : Grp ss part g) {s s' : Row} (hs : s ∈ ss) (hs' : s' ∈ ss) : clsF g s = clsF g s' ↔ part s = part s' := by
  have at_ : ∀ i, i < g.length → g.getD i (0, []) ∈ g := fun i hi => by
    rw [List.getD_eq_getElem?_getD, List.getElem?_eq_getElem hi]
    exact List.getElem_mem _
  have key : ∀ s ∈ ss, ∀ p ∈ g, (s ∈ p.2 ↔ part s = p.1) := fun s hs p hp => by
    refine ⟨fun h => (G.mem p hp s h).2, fun h => ?_⟩
    obtain ⟨q, hq, hsq⟩ := G.all s hs
    have : q = p := fst_inj G.nd hq hp ((G.mem q hq s hsq).2.symm.trans h)
    rw [← this]
    exact hsq
  constructor
  · intro h
    obtain ⟨p, hp, hsp⟩ := G.all s hs
    obtain ⟨i, hi, e⟩ := List.getElem_of_mem hp
    have e2 : g.getD i (0, []) = p := by rw [List.getD_eq_getElem?_getD, List.getElem?_eq_getElem hi, e]; rfl
    have h1 : i ∈ clsF g s := List.mem_filter.mpr ⟨List.mem_range.mpr hi, by rw [e2]; exact decide_eq_true hsp⟩
    rw [h] at h1
    have h2 := of_decide_eq_true (List.mem_filter.mp h1).2
    rw [e2] at h2
    rw [(G.mem p hp s hsp).2, (G.mem p hp s' h2).2]
  · intro h
    unfold clsF
    refine List.filter_congr fun i hi => ?_
    have hm := at_ i (List.mem_range.mp hi)
    exact decide_eq_decide.mpr (by rw [key s hs _ hm, key s' hs' _ hm, h])
/-- what the classes are of -/
structure Cls (m : Mach) (g : List (Nat × List Row)) (ss : List Row) (part : Row → Nat) : Prop where
  sts : Sts m ss
  grp : Grp ss part g
  eq : ∀ t u : T, t.WF m.ar → u.WF m.ar → (part (stT m t) = part (stT m u) ↔ EqT m t u)
theorem cls_of {m : Mach} (mo : MOk m) (a2 : ∀ a ∈ m.ar, a ≤ 2) {g : List (Nat × List Row)} (c : ClsOk m g) : ∃ ss part, Cls m g ss part := by
  obtain ⟨order, k, j, o, hf, hc, G⟩ := c.ex
  have st := sts_of o
  have hl : order.length = (order.map (·.1)).length := (List.length_map _).symm
  refine ⟨_, _, st, G, fun t u wt wu => ?_⟩
  rw [hl] at hf hc
  have it := st.all _ (tree_rch mo wt)
  have iu := st.all _ (tree_rch mo wu)
  rw [← eqT_iff mo a2 st wt wu]
  exact parts_eqI (mvs_of mo st) hf hc (List.idxOf_lt_length_of_mem it) (List.idxOf_lt_length_of_mem iu)
theorem Cls.cls {m : Mach} (mo : MOk m) {g : List (Nat × List Row)} {ss : List Row} {part : Row → Nat} (c : Cls m g ss part) {t u : T} (wt : t.WF m.ar) (wu : u.WF m.ar) : clsF g (stT m t) = clsF g (stT m u) ↔ EqT m t u :=
  (clsF_iff c.grp (c.sts.all _ (tree_rch mo wt)) (c.sts.all _ (tree_rch mo wu))).trans (c.eq t u wt wu)
theorem len_le {m W : Mach} {g g' : List (Nat × List Row)} {ss ss' : List Row} {part part' : Row → Nat} (mo : MOk m) (mw : MOk W) (a2 : ∀ a ∈ m.ar, a ≤ 2) (ea : W.ar = m.ar) (c : Cls m g ss part) (c' : Cls W g' ss' part') (eq : ∀ t u, EqT W t u → EqT m t u) : g.length ≤ g'.length := by
  have key : ∀ l : List (Nat × List Row), (∀ p ∈ l, p ∈ g) → ∃ ts : List T, (ts.map fun t => part (stT m t)) = l.map (·.1) ∧ ∀ t ∈ ts, t.WF m.ar := by
    intro l
    induction l with
    | nil => exact fun _ => ⟨[], rfl, by simp⟩
    | cons p l ih =>
      intro h
      obtain ⟨ts, h1, h2⟩ := ih fun q hq => h q (List.mem_cons_of_mem _ hq)
      have hp := h p (List.mem_cons_self ..)
      obtain ⟨s, hs⟩ : ∃ s, s ∈ p.2 := List.exists_mem_of_ne_nil _ (c.grp.ne p hp)
      obtain ⟨hss, hpart⟩ := c.grp.mem p hp s hs
      obtain ⟨t, wt, et⟩ := rch_tree mo a2 (c.sts.rch s hss)
      refine ⟨t :: ts, by rw [List.map_cons, List.map_cons, h1, et, hpart], fun x hx => ?_⟩
      rcases List.mem_cons.mp hx with rfl | hx
      · exact wt
      · exact h2 x hx
  obtain ⟨ts, h1, h2⟩ := key g fun _ h => h
  have nd := c.grp.nd
  rw [← h1] at nd
  have nd' : (ts.map fun t => part' (stT W t)).Nodup := by
    unfold List.Nodup at nd ⊢
    rw [List.pairwise_map] at nd ⊢
    refine nd.imp_of_mem fun {t u} ht hu hne e => hne ?_
    refine (c.eq t u (h2 t ht) (h2 u hu)).mpr (eq t u ((c'.eq t u (by rw [ea]; exact h2 t ht) (by rw [ea]; exact h2 u hu)).mp e))
  have len1 : ts.length = g.length := by
    have := congrArg List.length h1
    rwa [List.length_map, List.length_map] at this
  have := nodup_le (l := ts.map fun t => part' (stT W t)) (l' := g'.map (·.1)) nd' fun x hx => by
    obtain ⟨t, ht, rfl⟩ := List.mem_map.mp hx
    obtain ⟨p, hp, hsp⟩ := c'.grp.all _ (c'.sts.all _ (tree_rch mw (t := t) (by rw [ea]; exact h2 t ht)))
    exact List.mem_map.mpr ⟨p, hp, (c'.grp.mem p hp _ hsp).2.symm⟩
  rw [List.length_map, List.length_map, len1] at this
  exact this
theorem law_len' {m W : Mach} (h : DrM m) (w : Wid m W) {g g' : List (Nat × List Row)} (c : ClsOk m g) (c' : ClsOk W g') : g.length = g'.length := by
  have mo := h.mok
  have mw := w.mok h
  have a2 := h.ar.h2
  have a2' : ∀ a ∈ W.ar, a ≤ 2 := by rw [w.ar]; exact a2
  obtain ⟨ss, part, k⟩ := cls_of mo a2 c
  obtain ⟨ss', part', k'⟩ := cls_of mw a2' c'
  exact Nat.le_antisymm (len_le mo mw a2 w.ar k k' fun t u => (EqT_W h w).mp) (len_le mw mo a2' w.ar.symm k' k fun t u => (EqT_W h w).mpr)
theorem last_tree {ar : List Nat} (a2 : ∀ a ∈ ar, a ≤ 2) {t : List Nd} (ot : OkT ar t) : ∃ x : T, x.WF ar ∧ ∀ (m : Mach) (r : Row), (rowsF m t).getLast? = some r → r = rowT m x := by
  obtain ⟨ts, h1, h2, h3⟩ := toT a2 (t := t) ot.nd
  have hne : ts ≠ [] := fun e => ot.ne (List.length_eq_zero_iff.mp (by rw [← h1, e]; rfl))
  refine ⟨ts.getLast hne, h2 _ (List.getLast_mem hne), fun m r hr => ?_⟩
  rw [h3, List.getLast?_map, List.getLast?_eq_some_getLast hne] at hr
  exact (Option.some.inj hr).symm
theorem law_marks' {m W : Mach} (h : DrM m) (w : Wid m W) {g g' : List (Nat × List Row)} (c : ClsOk m g) (c' : ClsOk W g') {t u : List Nd} (ot : OkT m.ar t) (ou : OkT m.ar u) {r1 r1' r2 r2' : Row}
    (e1 : (rowsF m t).getLast? = some r1) (e1' : (rowsF W t).getLast? = some r1') (e2 : (rowsF m u).getLast? = some r2) (e2' : (rowsF W u).getLast? = some r2') :
    (clsF g (relS r1) = clsF g (relS r2)) ↔ (clsF g' (relS r1') = clsF g' (relS r2')) := by
  have mo := h.mok
  have mw := w.mok h
  have a2 := h.ar.h2
  obtain ⟨ss, part, k⟩ := cls_of mo a2 c
  obtain ⟨ss', part', k'⟩ := cls_of mw (by rw [w.ar]; exact a2) c'
  obtain ⟨x, wx, hx⟩ := last_tree a2 ot
  obtain ⟨y, wy, hy⟩ := last_tree a2 ou
  rw [hx m r1 e1, hx W r1' e1', hy m r2 e2, hy W r2' e2']
  refine (k.cls mo wx wy).trans ?_
  rw [← EqT_W h w]
  exact (k'.cls mw (by rw [w.ar]; exact wx) (by rw [w.ar]; exact wy)).symm
theorem last_M' {m : Mach} (h : DrM m) {t : List Nd} (ot : OkT m.ar t) {r : Row} (e : (rowsF m t).getLast? = some r) : NN r := by
  obtain ⟨x, wx, hx⟩ := last_tree h.ar.h2 ot
  rw [hx m r e]
  exact fun i hi => rowT_nn h.mok x wx i hi
theorem last_W' {m W : Mach} (h : DrM m) (w : Wid m W) {t : List Nd} (ot : OkT m.ar t) {r : Row} (e : (rowsF W t).getLast? = some r) : NN r := by
  obtain ⟨x, wx, hx⟩ := last_tree h.ar.h2 ot
  rw [hx W r e]
  exact fun i hi => rowT_nn (w.mok h) x (by rw [w.ar]; exact wx) i hi
theorem steady_of {m : Mach} (mo : MOk m) : Steady m := fun order o => by
  have st := sts_of o
  have hl : order.length = (order.map (·.1)).length := (List.length_map _).symm
  rw [hl]
  have mv := mvs_of mo st
  refine ⟨closedO_of st, ⟨fun r hr => ?_, fun s i hs hi => mv_lt st hs hi⟩, mv.gr⟩
  unfold movesF at hr
  obtain ⟨x, _, rfl⟩ := List.mem_map.mp hr
  exact List.length_map _
end Cp
end

section
set_option Elab.async false
set_option linter.all false
set_option maxRecDepth 100000
/-! finite machines are tame -/
namespace Cp
theorem gpF_nn (m : Mach) : 0 ≤ gpF m := by
  unfold gpF
  exact (lmx_mem (ns := [0] ++ m.ins.map (·.price) ++ m.cv.map (·.price)) (by simp)).2 0 (by simp)
theorem getD_some {r : Row} {v : Int} (h : some v ∈ r) : ∃ g, g < r.length ∧ r.getD g none = some v := by
  obtain ⟨g, hg, e⟩ := List.getElem_of_mem h
  exact ⟨g, hg, by rw [List.getD_eq_getElem?_getD, List.getElem?_eq_getElem hg, e]; rfl⟩
theorem spread_of {m : Mach} (mo : MOk m) (a2 : ∀ a ∈ m.ar, a ≤ 2) (n1 : 1 ≤ m.n) (fin : ∃ ss : List Row, ∀ s, Rch m s → s ∈ ss) (hn : m.n ≤ 2) {s : Row} (hs : Rch m s) : spreadF s ≤ 3 * gpF m := by
  have hp := gpF_nn m
  obtain ⟨t, wt, rfl⟩ := rch_tree mo a2 hs
  by_cases he : somes (stT m t) = []
  · unfold spreadF
    rw [he]
    show (0 : Int) ≤ _
    omega
  · have hv := (lmx_mem he).1
    unfold spreadF
    generalize lmx (somes (stT m t)) = v at hv
    rw [somes_mem] at hv
    obtain ⟨g, hg, eg⟩ := getD_some hv
    have hl : (stT m t).length = m.n := by unfold stT relS; rw [List.length_map, rowT_len]
    rw [hl] at hg
    cases hb : baseF (rowT m t) with
    | none =>
      have := dead_relS.mpr (base_none.mp hb)
      have h2 : (stT m t).getD g none = none := this.at g
      rw [h2] at eg
      cases eg
    | some b =>
      obtain ⟨f, hf, ef⟩ := getD_some (omin_mem hb)
      rw [rowT_len] at hf
      have eg2 : (rowT m t).getD g none = some (v + b) := by
        rw [(rel_shift hb).1, shift_getD]
        show ((stT m t).getD g none).map _ = _
        rw [eg]
        rfl
      by_cases hfg : f = g
      · subst hfg
        rw [eg2] at ef
        have := Option.some.inj ef
        omega
      · have n2 : m.n = 2 := by omega
        obtain ⟨ss, hss⟩ := fin
        have := near mo n2 ⟨ss, fun t wt => hss _ (tree_rch mo wt)⟩ wt (by omega) (by omega) hfg (a := b) (b := v + b) ef eg2
        omega
theorem tame_M' {m : Mach} (h : DrM m) (f : ∃ ss : List Row, ss.length ≤ 8 ∧ ∀ s, Rch m s → s ∈ ss) : Tame m 8 := by
  obtain ⟨ss, hl, hss⟩ := f
  exact ⟨fun l nd hr => Nat.le_trans (nodup_le nd fun s hs => hss s (hr s hs)) hl, by decide, fun hn s hs => spread_of h.mok h.ar.h2 h.n1 ⟨ss, hss⟩ hn hs⟩
theorem jrow_W {m W : Mach} (h : DrM m) (w : Wid m W) (op : Nat) (ks : List T) : jrow W op (ks.map (rowT W)) = jrow W op (ks.map (rowT m)) := by
  have mw := w.mok h
  obtain ⟨more, e, _, hm⟩ := w.ins
  refine row_ext (by rw [jrow_len', jrow_len']) fun g hg => ?_
  rw [jrow_len'] at hg
  refine lb_ext fun z => ?_
  rw [jrow_lb mw.form mw.w hg, jrow_lb mw.form mw.w hg]
  have same : ∀ i ∈ W.ins, offer W (ks.map (rowT W)) g i = offer W (ks.map (rowT m)) g i := fun i hi => by
    unfold offer costF
    rw [parts_W (fun x _ => rowT_W h w x)]
    rw [e] at hi
    rcases List.mem_append.mp hi with hi | hi
    · exact (h.ins i hi).1.args
    · exact (hm i hi).2.2
  constructor
  · intro q i hi ho
    rw [← same i hi]
    exact q i hi ho
  · intro q i hi ho
    rw [same i hi]
    exact q i hi ho
theorem stT_W {m W : Mach} (h : DrM m) (w : Wid m W) {t : T} (wt : t.WF m.ar) : stT W t = relS (jrow W t.op (t.kids.map (stT m))) := by
  have mw := w.mok h
  have ha := (wf_iff.mp wt).1
  rw [← w.ar] at ha
  unfold stT
  rw [rowT_kids, jrow_W h w]
  rcases kids_sh (m := m) t.kids with ⟨k, h1, h2⟩ | ⟨h1, h2, h3⟩
  · rw [jrow_shift mw h2 (op := t.op) (by rw [List.length_map]; exact ha), relS_shift]
    rfl
  · have d1 := jrow_dead mw (op := t.op) (by rw [List.length_map]; exact ha) h2
    have d2 := jrow_dead mw (op := t.op) (by rw [List.length_map]; exact ha) h3
    exact congrArg relS (dead_eq (by rw [jrow_len', jrow_len']) d1 d2)
/-- all states an operator of arity a may make -/
def opL (W : Mach) (ss : List Row) (op a : Nat) : List Row :=
  if a = 0 then [relS (jrow W op [])] else if a = 1 then ss.map fun s => relS (jrow W op [s]) else ss.flatMap fun s => ss.map fun u => relS (jrow W op [s, u])
def allL (W : Mach) (ss : List Row) : List Nat → Nat → List Row
  | [], _ => []
  | a :: ar, op => opL W ss op a ++ allL W ss ar (op + 1)
theorem flat_len {α β : Type} (f : α → List β) (n : Nat) : ∀ (l : List α), (∀ x ∈ l, (f x).length ≤ n) → (l.flatMap f).length ≤ l.length * n
  | [], _ => by simp
  | x :: l, h => by
    have h1 := flat_len f n l fun y hy => h y (List.mem_cons_of_mem _ hy)
    have h2 := h x (List.mem_cons_self ..)
    rw [List.flatMap_cons, List.length_append, List.length_cons, Nat.add_mul]
    omega
theorem opL_len {W : Mach} {ss : List Row} (hs : ss.length ≤ 8) (op a : Nat) : (opL W ss op a).length ≤ 64 ∧ (a = 0 → (opL W ss op a).length ≤ 1) := by
  unfold opL
  by_cases h0 : a = 0
  · simp [h0]
  · rw [if_neg h0]
    refine ⟨?_, fun e => absurd e h0⟩
    split
    · rw [List.length_map]
      omega
    · refine Nat.le_trans (flat_len _ 8 ss fun s _ => by rw [List.length_map]; exact hs) ?_
      omega
theorem allL_len {W : Mach} {ss : List Row} (hs : ss.length ≤ 8) : ∀ (ar : List Nat) (op : Nat), (allL W ss ar op).length ≤ 64 * ar.length ∧ (0 ∈ ar → (allL W ss ar op).length + 63 ≤ 64 * ar.length)
  | [], _ => by simp [allL]
  | a :: ar, op => by
    obtain ⟨h1, h2⟩ := allL_len (W := W) hs ar (op + 1)
    obtain ⟨h3, h4⟩ := opL_len (W := W) hs op a
    rw [allL, List.length_append, List.length_cons]
    refine ⟨by omega, fun h => ?_⟩
    rcases List.mem_cons.mp h with e | h
    · have := h4 e.symm
      omega
    · have := h2 h
      omega
theorem allL_mem {W : Mach} {ss : List Row} {x : Row} {a : Nat} : ∀ {ar : List Nat} {op k : Nat}, ar[k]? = some a → x ∈ opL W ss (op + k) a → x ∈ allL W ss ar op
  | [], _, _, h, _ => by simp at h
  | b :: ar, op, 0, h, hx => by
    obtain rfl : b = a := by simpa using h
    exact List.mem_append_left _ hx
  | b :: ar, op, k + 1, h, hx => by
    refine List.mem_append_right _ (allL_mem (k := k) (by simpa using h) ?_)
    rw [show op + 1 + k = op + (k + 1) by omega]
    exact hx
theorem fin_W {m W : Mach} (h : DrM m) (w : Wid m W) (f : ∃ ss : List Row, ss.length ≤ 8 ∧ ∀ s, Rch m s → s ∈ ss) : ∃ ss : List Row, ss.length ≤ 193 ∧ ∀ s, Rch W s → s ∈ ss := by
  obtain ⟨ss, hl, hss⟩ := f
  have mo := h.mok
  have mw := w.mok h
  have a2 := h.ar.h2
  refine ⟨allL W ss m.ar 0, ?_, fun s hs => ?_⟩
  · have := (allL_len (W := W) hl m.ar 0).2 h.ar.h0
    have := h.ar.h4
    omega
  · obtain ⟨t, wt, rfl⟩ := rch_tree mw (by rw [w.ar]; exact a2) hs
    rw [w.ar] at wt
    obtain ⟨ha, hk⟩ := wf_iff.mp wt
    rw [stT_W h w wt]
    refine allL_mem ha ?_
    have kin : ∀ x ∈ t.kids, stT m x ∈ ss := fun x hx => hss _ (tree_rch mo (hk x hx))
    have kl := a2 _ (List.mem_of_getElem? ha)
    rw [Nat.zero_add]
    generalize t.op = op
    generalize t.kids = ks at kin kl
    match ks, kin, kl with
    | [], _, _ => simp [opL]
    | [x], kin, _ => exact List.mem_map.mpr ⟨stT m x, kin x (by simp), rfl⟩
    | [x, y], kin, _ => exact List.mem_flatMap.mpr ⟨stT m x, kin x (by simp), List.mem_map.mpr ⟨stT m y, kin y (by simp), rfl⟩⟩
    | _ :: _ :: _ :: _, _, kl => simp at kl
theorem tame_W' {m W : Mach} (h : DrM m) (f : ∃ ss : List Row, ss.length ≤ 8 ∧ ∀ s, Rch m s → s ∈ ss) (w : Wid m W) : Tame W 193 := by
  obtain ⟨ss, hl, hss⟩ := fin_W h w f
  exact ⟨fun l nd hr => Nat.le_trans (nodup_le nd fun s hs => hss s (hr s hs)) hl, by decide, fun hn s hs => spread_of (w.mok h) (by rw [w.ar]; exact h.ar.h2) (by rw [w.n]; omega) ⟨ss, hss⟩ hn hs⟩
end Cp
end

section
set_option Elab.async false
set_option linter.all false
set_option maxRecDepth 100000
/-! what the law wants of the mathematics -/
namespace Cp
/-- at most B reachable states -/
def Fin8 (m : Mach) (B : Nat) : Prop := ∃ ss : List Row, ss.length ≤ B ∧ ∀ s, Rch m s → s ∈ ss
def constM : Mach := ⟨[0, 2], 2, [⟨0, 0, [], 1⟩, ⟨1, 0, [], 0⟩, ⟨0, 1, [1, 1], 0⟩, ⟨1, 1, [0, 0], 1⟩, ⟨0, 1, [0, 0], 0⟩], []⟩
theorem constM_dr : DrM constM := by
  refine ⟨⟨by decide, by decide, by decide, by decide⟩, by decide, by decide, fun i hi => ?_, by decide, fun c hc => (by cases hc), by decide⟩
  have hi' : i ∈ [(⟨0, 0, [], 1⟩ : Ins), ⟨1, 0, [], 0⟩, ⟨0, 1, [1, 1], 0⟩, ⟨1, 1, [0, 0], 1⟩, ⟨0, 1, [0, 0], 0⟩] := hi
  simp only [List.mem_cons, List.not_mem_nil, or_false] at hi'
  rcases hi' with rfl | rfl | rfl | rfl | rfl <;> exact ⟨⟨by decide, by decide, by decide, by decide, by decide⟩, by decide⟩
def constL : List Row := [[some 1, some 0], [some 0, some 3], [some 0, some 1]]
theorem constM_fin : Fin8 constM 8 := by
  refine ⟨constL, by decide, fun s hs => ?_⟩
  have h0 : relS (jrow constM 0 []) ∈ constL := by decide +kernel
  have h2 : ∀ a ∈ constL, ∀ b ∈ constL, relS (jrow constM 1 [a, b]) ∈ constL := by decide +kernel
  induction hs with
  | step op ss ha hr ih =>
    match op, ha with
    | 0, ha =>
      have hl : 0 = ss.length := Option.some.inj ha
      obtain rfl := List.length_eq_zero_iff.mp hl.symm
      exact h0
    | 1, ha =>
      have hl : 2 = ss.length := Option.some.inj ha
      match ss, hl, ih with
      | [a, b], _, ih => exact h2 a (ih a (by simp)) b (ih b (by simp))
    | _ + 2, ha => cases ha
theorem tame_M {m : Mach} (h : DrM m) (f : Fin8 m 8) : Tame m 8 := tame_M' h f
theorem tame_W {m W : Mach} (h : DrM m) (f : Fin8 m 8) (w : Wid m W) : Tame W 193 := tame_W' h f w
theorem steady_M {m : Mach} (h : DrM m) : Steady m := steady_of h.mok
theorem steady_W {m W : Mach} (h : DrM m) (w : Wid m W) : Steady W := steady_of (w.mok h)
theorem last_M {m : Mach} (h : DrM m) {t : List Nd} (ot : OkT m.ar t) {r : Row} (e : (rowsF m t).getLast? = some r) : NN r := last_M' h ot e
theorem last_W {m W : Mach} (h : DrM m) (w : Wid m W) {t : List Nd} (ot : OkT m.ar t) {r : Row} (e : (rowsF W t).getLast? = some r) : NN r := last_W' h w ot e
theorem law_len {m W : Mach} (h : DrM m) (w : Wid m W) {g g' : List (Nat × List Row)} (c : ClsOk m g) (c' : ClsOk W g') : g.length = g'.length := law_len' h w c c'
theorem law_marks {m W : Mach} (h : DrM m) (w : Wid m W) {g g' : List (Nat × List Row)} (c : ClsOk m g) (c' : ClsOk W g') {t u : List Nd} (ot : OkT m.ar t) (ou : OkT m.ar u) {r1 r1' r2 r2' : Row}
    (e1 : (rowsF m t).getLast? = some r1) (e1' : (rowsF W t).getLast? = some r1') (e2 : (rowsF m u).getLast? = some r2) (e2' : (rowsF W u).getLast? = some r2') :
    (clsF g (relS r1) = clsF g (relS r2)) ↔ (clsF g' (relS r1') = clsF g' (relS r2')) := law_marks' h w c c' ot ou e1 e1' e2 e2'
end Cp
end

section
set_option Elab.async false
set_option linter.all false
set_option maxRecDepth 100000
set_option maxHeartbeats 4000000
namespace Cp
open PySem PySem.Spec PyProof.Rows L2
section
variable {P : Program} {w : World} {K : PySem.W.Frag} {mg : Str → Option Value} {base : Heap}
def sp_law_few : Sp := fun vs H Q _ => ∃ (pp : Addr) (n : Nat), vs = [.ref pp, .int 8] ∧ Pen H pp n ∧ n ≤ 800000 ∧ ∀ (m : Mach) (v x : V) (t : Addr) (H' : Hp), DrM m → Fin8 m 8 → RD H' v (dM m) → H' t = some (.tup [v, x]) → Pen H' pp (n + 12 * 82) → ExP pp H H' → Q (.ref t) H'
theorem ok_law_few (T : Tx mg) (D : Def K mg "_law_few" s_law_few) (C_law_pick : Cal P w K mg base CX0 "_law_pick" 2 ["_law_pen_here", "_law_some"] (sp_law_pick K)) (C_law_machine : Cal P w K mg base CX0 "_law_machine" 4 ["_law_pen_here", "_law_forms", "_law_dear"] sp_law_machine)
    (C_law_order : Cal P w K mg base CX0 "_law_order" 2 ["_law_machine_here", "_law_most"] sp_law_order) : Cal P w K mg base CX0 "_law_few" 5 ["_law_pen_here", "_law_most"] sp_law_few := by
  obtain ⟨f, fd, F, hm⟩ := D.ex
  refine ⟨f, fd, F.ok sc_law_few (fun vs H Q E h => ?_) (fun cdv A outer s H vs Q E hr h => ?_), hm, F.kp, F.binds fun _ _ _ _ _ _ us hl => match us, hl with | [_, _], _ => rfl⟩
  · obtain ⟨pp, n, rfl, _⟩ := h
    rfl
  · obtain ⟨pp, n, rfl, hp, hn, q⟩ := h
    refine ⟨_, (pss_cons (ps_for PassesOwn.never rfl (pi_range1 (by rfl) T.range (pa_cons pe_int pa_nil)) (pg_name (i := 2) sc_law_few.nd rfl (by first | exact .inl rfl | exact .inr rfl))
  (pss_cons (ps_set (i := 3) sc_law_few.nd rfl (by first | exact .inl rfl | exact .inr rfl) (pe_cal C_law_machine (by first | exact hr | exact hr.mono (by decide)) (by rfl) pass0 (pa_cons (pv 0) (pa_cons pe_int (pa_cons (pe_cal C_law_pick (by first | exact hr | exact hr.mono (by decide)) (by rfl) pass0 (pa_cons (pv 0) (pa_cons (pe_lst (pa_cons pe_int (pa_cons pe_int (pa_cons pe_int (pa_cons pe_int pa_nil))))) pa_nil))) pa_nil)))))
  (pss_cons (ps_set (i := 4) sc_law_few.nd rfl (by first | exact .inl rfl | exact .inr rfl) (pe_cal C_law_order (by first | exact hr | exact hr.mono (by decide)) (by rfl) pass0 (pa_cons (pv 3) (pa_cons (pv 1) pa_nil))))
  (pss_one (ps_if (PW.pt (pw_and (pt_cmpR op_notN (pv 4) pe_non (nomark _)) (pw_and1 (PW.pt (pw_or (pt_cmpR op_gt (pe_callB (kc_len K) (by rfl) T.len boot_len (pa_cons (pv 4) pa_nil)) pe_int (nomark _)) (pw_or1 (pt_cmpR op_gt (pv 2) pe_int (nomark _)))))))) (pss_one (ps_ret (pe_tup (pa_cons (pv 3) (pa_cons (pv 4) pa_nil))))) pss_nil)))))
  (pss_cons (ps_set (i := 3) sc_law_few.nd rfl (by first | exact .inl rfl | exact .inr rfl) (pe_tup (pa_cons (pe_tup (pa_cons pe_int (pa_cons pe_int pa_nil))) (pa_cons pe_int (pa_cons (pe_tup (pa_cons (pe_tup (pa_cons pe_int (pa_cons pe_int (pa_cons (pe_tup pa_nil) (pa_cons pe_int pa_nil))))) (pa_cons (pe_tup (pa_cons pe_int (pa_cons pe_int (pa_cons (pe_tup pa_nil) (pa_cons pe_int pa_nil))))) (pa_cons (pe_tup (pa_cons pe_int (pa_cons pe_int (pa_cons (pe_tup (pa_cons pe_int (pa_cons pe_int pa_nil))) (pa_cons pe_int pa_nil))))) (pa_cons (pe_tup (pa_cons pe_int (pa_cons pe_int (pa_cons (pe_tup (pa_cons pe_int (pa_cons pe_int pa_nil))) (pa_cons pe_int pa_nil))))) (pa_cons (pe_tup (pa_cons pe_int (pa_cons pe_int (pa_cons (pe_tup (pa_cons pe_int (pa_cons pe_int pa_nil))) (pa_cons pe_int pa_nil))))) pa_nil)))))) (pa_cons (pe_tup pa_nil) pa_nil))))))
  (pss_one (ps_ret (pe_tup (pa_cons (pv 3) (pa_cons (pe_cal C_law_order (by first | exact hr | exact hr.mono (by decide)) (by rfl) pass0 (pa_cons (pv 3) (pa_cons (pv 1) pa_nil))) pa_nil))))))), ?_⟩
    refine ⟨_, rfl, by decide, by decide, ?_⟩
    refine for_it (walk_rn (n := 12) rfl) (fun i σ H' => (∃ x2 x3 x4, σ = [some (.ref pp), some (.int 8), x2, x3, x4]) ∧ ExP pp H H' ∧ Pen H' pp (n + i * 82)) ⟨⟨_, _, _, rfl⟩, ExP.refl pp H, hp.mono (by omega)⟩ (fun _ _ _ _ _ => trivial) (fun i x σ _ H2 hi hP hy => ?_) (fun σ H2 hP => ?_)
    · obtain ⟨rfl, rfl⟩ := hy
      obtain ⟨⟨x2, x3, x4, rfl⟩, e2, hp2⟩ := hP
      refine ⟨_, rfl, _, rfl, by simp [sizeLine], fun z hz => ?_⟩
      have exz := Ex.new (o := .lst [.int 1, .int 2, .int 3, .int 5]) hz
      have nz : z ≠ pp := ne_pen hp2 hz
      refine ⟨pp, z, n + i * 82, _, rfl, .of upd_same, nz, by simp, by simp, hp2.ex exz, by omega, fun x H3 hx hp3 ho3 => ?_⟩
      have e3 : ExP pp H H3 := (e2.trans exz.p).trans (.of ho3)
      obtain ⟨dear, hde, rfl⟩ : ∃ d : Nat, d ≤ 5 ∧ x = vN d := by
        simp at hx
        rcases hx with rfl | rfl | rfl | rfl
        · exact ⟨1, by omega, rfl⟩
        · exact ⟨2, by omega, rfl⟩
        · exact ⟨3, by omega, rfl⟩
        · exact ⟨5, by omega, rfl⟩
      refine ⟨pp, dear, n + i * 82 + 1, rfl, hde, hp3, by omega, fun m v H4 dm hM hp4 e4 => ?_⟩
      have e04 := e3.trans e4
      refine ⟨_, rfl, _, rfl, v, m, rfl, hM, dm, fun H5 ex5 => ?_, fun l xs ss H5 ex5 hl h8 hcl => ?_⟩
      · refine ⟨_, rfl, rfl, _, rfl, ?_⟩
        refine itF (by decide) ?_
        refine itF Bool.false_ne_true ?_
        exact ⟨⟨_, _, _, rfl⟩, e04.trans ex5.p, (hp4.ex ex5).mono (by omega)⟩
      · refine ⟨_, rfl, rfl, _, rfl, ?_⟩
        refine itT rfl ?_
        have ret : ∃ v1, [some (V.ref pp), some (V.int 8), some (vN i), some v, some (V.ref l)][3]? = some (some v1) ∧ True := ⟨v, rfl, trivial⟩
        have fin : ∀ t, H5 t = none → Q (.ref t) (upd H5 t (.tup [v, .ref l])) := fun t ht => q m v (.ref l) t _ dm ⟨ss, h8, hcl⟩ ((hM.ex ex5).ex (Ex.new ht)) upd_same (((hp4.ex ex5).ex (Ex.new ht)).mono (by omega)) ((e04.trans ex5.p).trans (Ex.new ht).p)
        refine ⟨_, rfl, l, xs, rfl, .inl (.of hl), _, _, rfl, rfl, _, rfl, ?_⟩
        by_cases h2 : (2 : Int) < (xs.length : Int)
        · refine itT (decide_eq_true h2) ?_
          refine itT rfl ?_
          exact ⟨_, rfl, _, rfl, by simp [sizeLine], fin⟩
        · refine itF (fun z => h2 (of_decide_eq_true z)) ?_
          refine ⟨_, rfl, _, _, rfl, rfl, _, rfl, ?_⟩
          by_cases h3 : (8 : Int) < (i : Int)
          · refine itT (decide_eq_true h3) ?_
            exact ⟨_, rfl, _, rfl, by simp [sizeLine], fin⟩
          · refine itF (fun z => h3 (of_decide_eq_true z)) ?_
            exact ⟨⟨_, _, _, rfl⟩, e04.trans ex5.p, (hp4.ex ex5).mono (by omega)⟩
    · obtain ⟨⟨x2, x3, x4, rfl⟩, e2, hp2⟩ := hP
      have exA := Ex.refl H2
      refine ⟨by simp [sizeLine], fun pa h_pa => ?_⟩
      have x_pa := Ex.new (o := .tup [.int 0, .int 2]) h_pa
      have f_pa : upd H2 pa (.tup [.int 0, .int 2]) pa = some (.tup [.int 0, .int 2]) := upd_same
      replace exA := exA.trans x_pa
      generalize upd H2 pa (.tup [.int 0, .int 2]) = G0 at x_pa exA f_pa
      refine ⟨by simp [sizeLine], fun a1 h_a1 => ?_⟩
      have x_a1 := Ex.new (o := .tup []) h_a1
      have f_a1 : upd G0 a1 (.tup []) a1 = some (.tup []) := upd_same
      replace f_pa := x_a1 _ _ f_pa
      replace exA := exA.trans x_a1
      generalize upd G0 a1 (.tup []) = G1 at x_a1 exA f_pa f_a1
      refine ⟨by simp [sizeLine], fun i1 h_i1 => ?_⟩
      have x_i1 := Ex.new (o := .tup [.int 0, .int 0, .ref a1, .int 1]) h_i1
      have f_i1 : upd G1 i1 (.tup [.int 0, .int 0, .ref a1, .int 1]) i1 = some (.tup [.int 0, .int 0, .ref a1, .int 1]) := upd_same
      replace f_pa := x_i1 _ _ f_pa
      replace f_a1 := x_i1 _ _ f_a1
      replace exA := exA.trans x_i1
      generalize upd G1 i1 (.tup [.int 0, .int 0, .ref a1, .int 1]) = G2 at x_i1 exA f_pa f_a1 f_i1
      refine ⟨by simp [sizeLine], fun a2 h_a2 => ?_⟩
      have x_a2 := Ex.new (o := .tup []) h_a2
      have f_a2 : upd G2 a2 (.tup []) a2 = some (.tup []) := upd_same
      replace f_pa := x_a2 _ _ f_pa
      replace f_a1 := x_a2 _ _ f_a1
      replace f_i1 := x_a2 _ _ f_i1
      replace exA := exA.trans x_a2
      generalize upd G2 a2 (.tup []) = G3 at x_a2 exA f_pa f_a1 f_i1 f_a2
      refine ⟨by simp [sizeLine], fun i2 h_i2 => ?_⟩
      have x_i2 := Ex.new (o := .tup [.int 1, .int 0, .ref a2, .int 0]) h_i2
      have f_i2 : upd G3 i2 (.tup [.int 1, .int 0, .ref a2, .int 0]) i2 = some (.tup [.int 1, .int 0, .ref a2, .int 0]) := upd_same
      replace f_pa := x_i2 _ _ f_pa
      replace f_a1 := x_i2 _ _ f_a1
      replace f_i1 := x_i2 _ _ f_i1
      replace f_a2 := x_i2 _ _ f_a2
      replace exA := exA.trans x_i2
      generalize upd G3 i2 (.tup [.int 1, .int 0, .ref a2, .int 0]) = G4 at x_i2 exA f_pa f_a1 f_i1 f_a2 f_i2
      refine ⟨by simp [sizeLine], fun a3 h_a3 => ?_⟩
      have x_a3 := Ex.new (o := .tup [.int 1, .int 1]) h_a3
      have f_a3 : upd G4 a3 (.tup [.int 1, .int 1]) a3 = some (.tup [.int 1, .int 1]) := upd_same
      replace f_pa := x_a3 _ _ f_pa
      replace f_a1 := x_a3 _ _ f_a1
      replace f_i1 := x_a3 _ _ f_i1
      replace f_a2 := x_a3 _ _ f_a2
      replace f_i2 := x_a3 _ _ f_i2
      replace exA := exA.trans x_a3
      generalize upd G4 a3 (.tup [.int 1, .int 1]) = G5 at x_a3 exA f_pa f_a1 f_i1 f_a2 f_i2 f_a3
      refine ⟨by simp [sizeLine], fun i3 h_i3 => ?_⟩
      have x_i3 := Ex.new (o := .tup [.int 0, .int 1, .ref a3, .int 0]) h_i3
      have f_i3 : upd G5 i3 (.tup [.int 0, .int 1, .ref a3, .int 0]) i3 = some (.tup [.int 0, .int 1, .ref a3, .int 0]) := upd_same
      replace f_pa := x_i3 _ _ f_pa
      replace f_a1 := x_i3 _ _ f_a1
      replace f_i1 := x_i3 _ _ f_i1
      replace f_a2 := x_i3 _ _ f_a2
      replace f_i2 := x_i3 _ _ f_i2
      replace f_a3 := x_i3 _ _ f_a3
      replace exA := exA.trans x_i3
      generalize upd G5 i3 (.tup [.int 0, .int 1, .ref a3, .int 0]) = G6 at x_i3 exA f_pa f_a1 f_i1 f_a2 f_i2 f_a3 f_i3
      refine ⟨by simp [sizeLine], fun a4 h_a4 => ?_⟩
      have x_a4 := Ex.new (o := .tup [.int 0, .int 0]) h_a4
      have f_a4 : upd G6 a4 (.tup [.int 0, .int 0]) a4 = some (.tup [.int 0, .int 0]) := upd_same
      replace f_pa := x_a4 _ _ f_pa
      replace f_a1 := x_a4 _ _ f_a1
      replace f_i1 := x_a4 _ _ f_i1
      replace f_a2 := x_a4 _ _ f_a2
      replace f_i2 := x_a4 _ _ f_i2
      replace f_a3 := x_a4 _ _ f_a3
      replace f_i3 := x_a4 _ _ f_i3
      replace exA := exA.trans x_a4
      generalize upd G6 a4 (.tup [.int 0, .int 0]) = G7 at x_a4 exA f_pa f_a1 f_i1 f_a2 f_i2 f_a3 f_i3 f_a4
      refine ⟨by simp [sizeLine], fun i4 h_i4 => ?_⟩
      have x_i4 := Ex.new (o := .tup [.int 1, .int 1, .ref a4, .int 1]) h_i4
      have f_i4 : upd G7 i4 (.tup [.int 1, .int 1, .ref a4, .int 1]) i4 = some (.tup [.int 1, .int 1, .ref a4, .int 1]) := upd_same
      replace f_pa := x_i4 _ _ f_pa
      replace f_a1 := x_i4 _ _ f_a1
      replace f_i1 := x_i4 _ _ f_i1
      replace f_a2 := x_i4 _ _ f_a2
      replace f_i2 := x_i4 _ _ f_i2
      replace f_a3 := x_i4 _ _ f_a3
      replace f_i3 := x_i4 _ _ f_i3
      replace f_a4 := x_i4 _ _ f_a4
      replace exA := exA.trans x_i4
      generalize upd G7 i4 (.tup [.int 1, .int 1, .ref a4, .int 1]) = G8 at x_i4 exA f_pa f_a1 f_i1 f_a2 f_i2 f_a3 f_i3 f_a4 f_i4
      refine ⟨by simp [sizeLine], fun a5 h_a5 => ?_⟩
      have x_a5 := Ex.new (o := .tup [.int 0, .int 0]) h_a5
      have f_a5 : upd G8 a5 (.tup [.int 0, .int 0]) a5 = some (.tup [.int 0, .int 0]) := upd_same
      replace f_pa := x_a5 _ _ f_pa
      replace f_a1 := x_a5 _ _ f_a1
      replace f_i1 := x_a5 _ _ f_i1
      replace f_a2 := x_a5 _ _ f_a2
      replace f_i2 := x_a5 _ _ f_i2
      replace f_a3 := x_a5 _ _ f_a3
      replace f_i3 := x_a5 _ _ f_i3
      replace f_a4 := x_a5 _ _ f_a4
      replace f_i4 := x_a5 _ _ f_i4
      replace exA := exA.trans x_a5
      generalize upd G8 a5 (.tup [.int 0, .int 0]) = G9 at x_a5 exA f_pa f_a1 f_i1 f_a2 f_i2 f_a3 f_i3 f_a4 f_i4 f_a5
      refine ⟨by simp [sizeLine], fun i5 h_i5 => ?_⟩
      have x_i5 := Ex.new (o := .tup [.int 0, .int 1, .ref a5, .int 0]) h_i5
      have f_i5 : upd G9 i5 (.tup [.int 0, .int 1, .ref a5, .int 0]) i5 = some (.tup [.int 0, .int 1, .ref a5, .int 0]) := upd_same
      replace f_pa := x_i5 _ _ f_pa
      replace f_a1 := x_i5 _ _ f_a1
      replace f_i1 := x_i5 _ _ f_i1
      replace f_a2 := x_i5 _ _ f_a2
      replace f_i2 := x_i5 _ _ f_i2
      replace f_a3 := x_i5 _ _ f_a3
      replace f_i3 := x_i5 _ _ f_i3
      replace f_a4 := x_i5 _ _ f_a4
      replace f_i4 := x_i5 _ _ f_i4
      replace f_a5 := x_i5 _ _ f_a5
      replace exA := exA.trans x_i5
      generalize upd G9 i5 (.tup [.int 0, .int 1, .ref a5, .int 0]) = G10 at x_i5 exA f_pa f_a1 f_i1 f_a2 f_i2 f_a3 f_i3 f_a4 f_i4 f_a5 f_i5
      refine ⟨by simp [sizeLine], fun pi h_pi => ?_⟩
      have x_pi := Ex.new (o := .tup [.ref i1, .ref i2, .ref i3, .ref i4, .ref i5]) h_pi
      have f_pi : upd G10 pi (.tup [.ref i1, .ref i2, .ref i3, .ref i4, .ref i5]) pi = some (.tup [.ref i1, .ref i2, .ref i3, .ref i4, .ref i5]) := upd_same
      replace f_pa := x_pi _ _ f_pa
      replace f_a1 := x_pi _ _ f_a1
      replace f_i1 := x_pi _ _ f_i1
      replace f_a2 := x_pi _ _ f_a2
      replace f_i2 := x_pi _ _ f_i2
      replace f_a3 := x_pi _ _ f_a3
      replace f_i3 := x_pi _ _ f_i3
      replace f_a4 := x_pi _ _ f_a4
      replace f_i4 := x_pi _ _ f_i4
      replace f_a5 := x_pi _ _ f_a5
      replace f_i5 := x_pi _ _ f_i5
      replace exA := exA.trans x_pi
      generalize upd G10 pi (.tup [.ref i1, .ref i2, .ref i3, .ref i4, .ref i5]) = G11 at x_pi exA f_pa f_a1 f_i1 f_a2 f_i2 f_a3 f_i3 f_a4 f_i4 f_a5 f_i5 f_pi
      refine ⟨by simp [sizeLine], fun pc h_pc => ?_⟩
      have x_pc := Ex.new (o := .tup []) h_pc
      have f_pc : upd G11 pc (.tup []) pc = some (.tup []) := upd_same
      replace f_pa := x_pc _ _ f_pa
      replace f_a1 := x_pc _ _ f_a1
      replace f_i1 := x_pc _ _ f_i1
      replace f_a2 := x_pc _ _ f_a2
      replace f_i2 := x_pc _ _ f_i2
      replace f_a3 := x_pc _ _ f_a3
      replace f_i3 := x_pc _ _ f_i3
      replace f_a4 := x_pc _ _ f_a4
      replace f_i4 := x_pc _ _ f_i4
      replace f_a5 := x_pc _ _ f_a5
      replace f_i5 := x_pc _ _ f_i5
      replace f_pi := x_pc _ _ f_pi
      replace exA := exA.trans x_pc
      generalize upd G11 pc (.tup []) = G12 at x_pc exA f_pa f_a1 f_i1 f_a2 f_i2 f_a3 f_i3 f_a4 f_i4 f_a5 f_i5 f_pi f_pc
      refine ⟨by simp [sizeLine], fun pm h_pm => ?_⟩
      have x_pm := Ex.new (o := .tup [.ref pa, .int 2, .ref pi, .ref pc]) h_pm
      have f_pm : upd G12 pm (.tup [.ref pa, .int 2, .ref pi, .ref pc]) pm = some (.tup [.ref pa, .int 2, .ref pi, .ref pc]) := upd_same
      replace f_pa := x_pm _ _ f_pa
      replace f_a1 := x_pm _ _ f_a1
      replace f_i1 := x_pm _ _ f_i1
      replace f_a2 := x_pm _ _ f_a2
      replace f_i2 := x_pm _ _ f_i2
      replace f_a3 := x_pm _ _ f_a3
      replace f_i3 := x_pm _ _ f_i3
      replace f_a4 := x_pm _ _ f_a4
      replace f_i4 := x_pm _ _ f_i4
      replace f_a5 := x_pm _ _ f_a5
      replace f_i5 := x_pm _ _ f_i5
      replace f_pi := x_pm _ _ f_pi
      replace f_pc := x_pm _ _ f_pc
      replace exA := exA.trans x_pm
      generalize upd G12 pm (.tup [.ref pa, .int 2, .ref pi, .ref pc]) = G13 at x_pm exA f_pa f_a1 f_i1 f_a2 f_i2 f_a3 f_i3 f_a4 f_i4 f_a5 f_i5 f_pi f_pc f_pm
      have hM : RD G13 (.ref pm) (dM constM) := by
        refine .tup f_pm (.cons (.tup f_pa (rds_n [0, 2])) (.cons (.int _) (.cons (.tup f_pi ?_) (.cons (.tup f_pc .nil) .nil))))
        exact .cons (rd_ins (i := ⟨0, 0, [], 1⟩) f_i1 f_a1) (.cons (rd_ins (i := ⟨1, 0, [], 0⟩) f_i2 f_a2) (.cons (rd_ins (i := ⟨0, 1, [1, 1], 0⟩) f_i3 f_a3) (.cons (rd_ins (i := ⟨1, 1, [0, 0], 1⟩) f_i4 f_a4) (.cons (rd_ins (i := ⟨0, 1, [0, 0], 0⟩) f_i5 f_a5) .nil))))
      have fin : ∀ {x : V} {H5 : Hp}, Ex G13 H5 → [V.ref pm, x].length ≤ sizeLine ∧ ∀ t, H5 t = none → Q (.ref t) (upd H5 t (.tup [.ref pm, x])) := fun {x H5} ex5 => ⟨by simp [sizeLine], fun t ht =>
        q constM (.ref pm) x t _ constM_dr constM_fin ((hM.ex ex5).ex (Ex.new ht)) upd_same (((hp2.ex exA).ex ex5).ex (Ex.new ht)) (((e2.trans exA.p).trans ex5.p).trans (Ex.new ht).p)⟩
      refine ⟨_, rfl, _, rfl, _, rfl, .ref pm, constM, rfl, hM, constM_dr, fun H5 ex5 => fin ex5, fun l xs ss H5 ex5 _ _ _ => fin ex5⟩
/-! _law_is_few -/
def sp_law_is_few : Sp := fun vs H Q _ => ∃ (v : V) (m : Mach) (B : Nat), vs = [v] ∧ RD H v (dM m) ∧ m.Ok ∧ Tame m B ∧ ∀ (b : Bool) (H' : Hp), Ex H H' → (b = true → Tame m 14) → Q (.bl b) H'
theorem ok_law_is_few (T : Tx mg) (D : Def K mg "_law_is_few" s_law_is_few) (C_states : Cal P w K mg base CX0 "states" 7 ["machine"] sp_states) : Cal P w K mg base CX0 "_law_is_few" 8 ["_law_machine_here"] sp_law_is_few := by
  obtain ⟨f, fd, F, hm⟩ := D.ex
  refine ⟨f, fd, F.ok sc_law_is_few (fun vs H Q E h => ?_) (fun cdv A outer s H vs Q E hr h => ?_), hm, F.kp, F.binds fun _ _ _ _ _ _ us hl => match us, hl with | [_], _ => rfl⟩
  · obtain ⟨v, m, B, rfl, _⟩ := h
    rfl
  · obtain ⟨v, m, B, rfl, hM, ok, tm, q⟩ := h
    refine ⟨_, (pss_one (ps_try_thru0 (pss_one (ps_ret (pe_cmpR op_le (pe_callB (kc_len K) (by rfl) T.len boot_len (pa_cons (pe_cal C_states (by first | exact hr | exact hr.mono (by decide)) (by rfl) pass0 (pa_cons (pv 0) pa_nil)) pa_nil)) pe_int (nomark _)))))), ?_⟩
    refine ⟨_, rfl, v, m, B, rfl, hM, ok, tm, fun t ys order H1 ex1 ht hl hok => ?_⟩
    refine ⟨t, ys, rfl, .inr (.of ht), _, _, rfl, rfl, q _ H1 ex1 fun z => ?_⟩
    have := of_decide_eq_true z
    refine ⟨fun l hnd hr => ?_, by omega, tm.sp⟩
    have h1 := nodup_le hnd fun s hs => hok.all s (hr s hs)
    rw [List.length_map] at h1
    omega
end
end Cp
end

section
set_option Elab.async false
set_option linter.all false
set_option maxRecDepth 100000
set_option maxHeartbeats 4000000
namespace Cp
open PySem PySem.Spec PyProof.Rows L2
theorem ExP.ex {pp : Addr} {H H' : Hp} (e : ExP pp H H') (h : H pp = none) : Ex H H' := fun c o q => e c o (ne_of_none q h) q
theorem ClsOk.len {m : Mach} {g : List (Nat × List Row)} {B : Nat} (c : ClsOk m g) (t : Tame m B) : g.length ≤ B := by
  obtain ⟨order, k, j, hok, _, _, hg⟩ := c.ex
  have h1 := nodup_le (l' := (order.map (·.1)).map (partF m (order.map (·.1)) k j)) hg.nd fun x hx => by
    obtain ⟨p, hp, rfl⟩ := List.mem_map.mp hx
    obtain ⟨s, hs⟩ := List.exists_mem_of_ne_nil _ (hg.ne p hp)
    obtain ⟨h1, h2⟩ := hg.mem p hp s hs
    exact List.mem_map.mpr ⟨s, h1, h2⟩
  rw [List.length_map, List.length_map, List.length_map] at h1
  exact Nat.le_trans h1 (hok.len t)
theorem nats_eqv : ∀ (c d : List Nat), PyData.eqvAll (c.map dN) (d.map dN) = decide (c = d)
  | [], [] => by simp [PyData.eqvAll]
  | [], _ :: _ => by simp [PyData.eqvAll]
  | _ :: _, [] => by simp [PyData.eqvAll]
  | a :: c, b :: d => by
    rw [List.map_cons, List.map_cons, PyData.eqvAll, nats_eqv c d]
    have : PyData.eqv (dN a) (dN b) = decide (a = b) := by
      simp [dN, PyData.eqv]
      by_cases h : a = b
      · simp [h]
      · have : ¬ (a : Int) = (b : Int) := by omega
        simp [h, this]
    rw [this]
    by_cases h : a = b <;> by_cases h' : c = d <;> simp [h, h']
theorem natsL_eqv (c d : List Nat) : PyData.eqv (.list (c.map dN)) (.list (d.map dN)) = decide (c = d) := by
  rw [PyData.eqv]
  exact nats_eqv c d
/-- a mark: two lists of numbers -/
def MarkV (mk pp : Addr) (H : Hp) (x : V) (c : List Nat × List Nat) : Prop := ∃ t a b, x = .ref t ∧ H t = some (.tup [.ref a, .ref b]) ∧ H a = some (.lst (c.1.map vN)) ∧ H b = some (.lst (c.2.map vN)) ∧ a ≠ mk ∧ b ≠ mk ∧ a ≠ pp ∧ b ≠ pp
theorem MarkV.exP {mk pp : Addr} {H H' : Hp} {x : V} {c : List Nat × List Nat} {n : Nat} (h : MarkV mk pp H x c) (e : ExP pp H H') (hp : Pen H pp n) : MarkV mk pp H' x c := by
  obtain ⟨t, a, b, h1, h2, h3, h4, h5, h6, h7, h8⟩ := h
  exact ⟨t, a, b, h1, e.tu hp _ _ h2, e _ _ h7 h3, e _ _ h8 h4, h5, h6, h7, h8⟩
theorem MarkV.put {mk pp : Addr} {H : Hp} {x : V} {c : List Nat × List Nat} {xs : List V} {o : HO} (h : MarkV mk pp H x c) (e : H mk = some (.lst xs)) : MarkV mk pp (upd H mk o) x c := by
  obtain ⟨t, a, b, h1, h2, h3, h4, h5, h6, h7, h8⟩ := h
  exact ⟨t, a, b, h1, Tu.lst e _ _ h2, by rw [upd_ne h5]; exact h3, by rw [upd_ne h6]; exact h4, h5, h6, h7, h8⟩
/-- what a mark tells of its tree -/
def MarkOf (m W : Mach) (g g' : List (Nat × List Row)) (c : List Nat × List Nat) : Prop := ∃ (t : List Nd) (r r' : Row), OkT m.ar t ∧ (rowsF m t).getLast? = some r ∧ (rowsF W t).getLast? = some r' ∧ c = (clsF g (relS r), clsF g' (relS r'))
theorem last_len {m : Mach} {t : List Nd} {r : Row} (e : (rowsF m t).getLast? = some r) : r.length = m.n := rowsF_row m t r (List.mem_of_getLast? e)
section
variable {P : Program} {w : World} {K : PySem.W.Frag} {mg : Str → Option Value} {base : Heap}
def sp_law (K : PySem.W.Frag) : Sp := fun vs H Q _ => ∃ (a : Addr) (ns : List Int), vs = [.ref a] ∧ SqL K H a (ns.map V.int) ∧ ∀ H', Ex H H' → Q (.bl true) H'
theorem ok_law {f : Addr} {fd : FuncData} (F : Fun K "law" "law" s_law f fd) (T : Tx mg) (C_law_cell_at : Cal P w K mg base CX0 "_law_cell_at" 1 ["_law_script", "_law_k"] (sp_law_cell_at K)) (C_law_pen : Cal P w K mg base CX0 "_law_pen" 1 ["_law_cell"] sp_law_pen)
    (C_law_few : Cal P w K mg base CX0 "_law_few" 5 ["_law_pen_here", "_law_most"] sp_law_few) (C_law_wider : Cal P w K mg base CX0 "_law_wider" 2 ["_law_pen_here", "_law_machine_here"] sp_law_wider) (C_law_is_few : Cal P w K mg base CX0 "_law_is_few" 8 ["_law_machine_here"] sp_law_is_few)
    (C_classes : Cal P w K mg base CX0 "classes" 8 ["machine"] sp_classes) (C_law_tree : Cal P w K mg base CX0 "_law_tree" 3 ["_law_pen_here", "_law_arities_here", "_law_most"] sp_law_tree) (C_law_class_of : Cal P w K mg base CX0 "_law_class_of" 1 ["_law_told", "_law_state"] sp_law_class_of)
    (C_relative : Cal P w K mg base CX0 "relative" 3 ["row"] sp_relative) (C_prices : Cal P w K mg base CX0 "prices" 6 ["machine", "tree"] sp_prices) : FnOk P w K mg base CX0 9 f fd ["_law_script"] (sp_law K) := by
  refine F.ok sc_law (fun vs H Q E h => ?_) (fun cdv A outer s H vs Q E hr h => ?_)
  · obtain ⟨a, ns, rfl, _⟩ := h
    rfl
  · obtain ⟨a, ns, rfl, hS, q⟩ := h
    refine ⟨_, (pss_cons (ps_for PassesOwn.never rfl (pi_range1 (by rfl) T.range (pa_cons (pe_callB (call_max2 rfl) (by rfl) T.max boot_max (pa_cons pe_int (pa_cons (pe_callB (call_min2 rfl) (by rfl) T.min boot_min (pa_cons (pe_callB (kc_len K) (by rfl) T.len boot_len (pa_cons (pv 0) pa_nil)) (pa_cons pe_int pa_nil))) pa_nil))) pa_nil)) (pg_name (i := 1) sc_law.nd rfl (by first | exact .inl rfl | exact .inr rfl))
  (pss_cons (ps_set (i := 2) sc_law.nd rfl (by first | exact .inl rfl | exact .inr rfl) (pe_cal C_law_pen (by first | exact hr | exact hr.mono (by decide)) (by rfl) pass0 (pa_cons (pe_cal C_law_cell_at (by first | exact hr | exact hr.mono (by decide)) (by rfl) pass0 (pa_cons (pv 0) (pa_cons (pv 1) pa_nil))) pa_nil)))
  (pss_one (ps_for PassesOwn.never rfl (pi_range1 (by rfl) T.range (pa_cons pe_int pa_nil)) (pg_name (i := 3) sc_law.nd rfl (by first | exact .inl rfl | exact .inr rfl))
  (pss_cons (ps_asg (pe_cal C_law_few (by first | exact hr | exact hr.mono (by decide)) (by rfl) pass0 (pa_cons (pv 2) (pa_cons pe_int pa_nil))) (kg_tup K (n := 2) rfl (pgs_cons (pg_name (i := 4) sc_law.nd rfl (by first | exact .inl rfl | exact .inr rfl)) (pgs_cons (pg_name (i := 5) sc_law.nd rfl (by first | exact .inl rfl | exact .inr rfl)) pgs_nil))))
  (pss_cons (ps_set (i := 6) sc_law.nd rfl (by first | exact .inl rfl | exact .inr rfl) (pe_cal C_law_wider (by first | exact hr | exact hr.mono (by decide)) (by rfl) pass0 (pa_cons (pv 2) (pa_cons (pv 4) pa_nil))))
  (pss_one (ps_if (pt_val (pe_cal C_law_is_few (by first | exact hr | exact hr.mono (by decide)) (by rfl) pass0 (pa_cons (pv 6) pa_nil))) (pss_cons (ps_par (i := 7) (j := 8) rfl sc_law.nd rfl rfl (by decide) rfl rfl (pa_cons (pe_cal C_classes (by first | exact hr | exact hr.mono (by decide)) (by rfl) pass0 (pa_cons (pv 4) pa_nil)) (pa_cons (pe_cal C_classes (by first | exact hr | exact hr.mono (by decide)) (by rfl) pass0 (pa_cons (pv 6) pa_nil)) pa_nil)) (by rfl))
  (pss_cons (ps_if (pt_cmpR op_ne (pe_callB (kc_len K) (by rfl) T.len boot_len (pa_cons (pv 7) pa_nil)) (pe_callB (kc_len K) (by rfl) T.len boot_len (pa_cons (pv 8) pa_nil)) (nomark _)) (pss_one (ps_ret pe_bl)) pss_nil)
  (pss_cons (ps_set (i := 9) sc_law.nd rfl (by first | exact .inl rfl | exact .inr rfl) (pe_lst pa_nil))
  (pss_cons (ps_for PassesOwn.never rfl (pi_range1 (by rfl) T.range (pa_cons pe_int pa_nil)) (pg_name (i := 10) sc_law.nd rfl (by first | exact .inl rfl | exact .inr rfl))
  (pss_cons (ps_set (i := 11) sc_law.nd rfl (by first | exact .inl rfl | exact .inr rfl) (pe_cal C_law_tree (by first | exact hr | exact hr.mono (by decide)) (by rfl) pass0 (pa_cons (pv 2) (pa_cons (pe_ix (kx_tup K) (pv 4) pe_int (fun _ _ => rfl)) (pa_cons pe_int pa_nil)))))
  (pss_cons (ps_set (i := 12) sc_law.nd rfl (by first | exact .inl rfl | exact .inr rfl) (pe_cal C_law_class_of (by first | exact hr | exact hr.mono (by decide)) (by rfl) pass0 (pa_cons (pv 7) (pa_cons (pe_ix (kx_tup K) (pe_cal C_relative (by first | exact hr | exact hr.mono (by decide)) (by rfl) pass0 (pa_cons (pe_cal C_prices (by first | exact hr | exact hr.mono (by decide)) (by rfl) pass0 (pa_cons (pv 4) (pa_cons (pv 11) pa_nil))) pa_nil)) pe_int (fun _ _ => rfl)) pa_nil))))
  (pss_one (ps_expr (pe_bm PySem.F.plainAttrs_list PySem.F.slot_list_append PySem.F.type_list_append mt_append (pv 9) (pa_cons (pe_tup (pa_cons (pv 12) (pa_cons (pe_cal C_law_class_of (by first | exact hr | exact hr.mono (by decide)) (by rfl) pass0 (pa_cons (pv 8) (pa_cons (pe_ix (kx_tup K) (pe_cal C_relative (by first | exact hr | exact hr.mono (by decide)) (by rfl) pass0 (pa_cons (pe_cal C_prices (by first | exact hr | exact hr.mono (by decide)) (by rfl) pass0 (pa_cons (pv 6) (pa_cons (pv 11) pa_nil))) pa_nil)) pe_int (fun _ _ => rfl)) pa_nil))) pa_nil))) pa_nil)))))))
  (pss_one (ps_for PassesOwn.never rfl (ki_list K (pv 9)) (kg_tup K (n := 2) rfl (pgs_cons (pg_name (i := 12) sc_law.nd rfl (by first | exact .inl rfl | exact .inr rfl)) (pgs_cons (pg_name (i := 13) sc_law.nd rfl (by first | exact .inl rfl | exact .inr rfl)) pgs_nil)))
  (pss_one (ps_if (pt_cmpR (ko_ne K hr.units) (pe_lc (own := [("_law_mark", 14)]) rfl sc_law.nd (ki_list K (pv 9)) (blkOk_by (own := [("_law_mark", 14)]) (N := ["_law_script", "_law_k", "_law_pen_here", "_law_turn", "_law_machine_here", "_law_order_here", "_law_wider_here", "_law_one", "_law_other", "_law_marks", "_law_lap", "_law_tree_here", "_law_mine", "_law_its", "_law_mark"]) (sc := defScope s_law) (by decide +kernel)) (fun _ _ _ _ _ => (pg_name (i := 14) sc_law.nd rfl (by first | exact .inl rfl | exact .inr rfl))) (fun _ _ _ _ _ => (pts_one (pt_cmpR op_ne (pe_cmpR (ko_eq K hr.units) (pe_ix (kx_tup K) (pv 14) pe_int (fun _ _ => rfl)) (pv 12) (nomark _)) (pe_cmpR (ko_eq K hr.units) (pe_ix (kx_tup K) (pv 14) pe_int (fun _ _ => rfl)) (pv 13) (nomark _)) (nomark _)))) (fun _ _ _ _ _ => (pv 14))) (pe_lst pa_nil) (nomark _)) (pss_one (ps_ret pe_bl)) pss_nil)))))))) pss_nil))))))))
  (pss_one (ps_ret pe_bl))), ?_⟩
    have hN : ∃ N : Nat, (if (if (2 : Int) < (ns.map V.int).length then (2 : Int) else ((ns.map V.int).length : Int)) > 1 then (if (2 : Int) < (ns.map V.int).length then (2 : Int) else ((ns.map V.int).length : Int)) else 1) = (N : Int) ∧ N ≤ 2 := by
      by_cases h1 : (2 : Int) < (ns.map V.int).length
      · exact ⟨2, by simp only [if_pos h1]; decide, by omega⟩
      · rw [if_neg h1]
        by_cases h2 : ((ns.map V.int).length : Int) > 1
        · exact ⟨(ns.map V.int).length, by rw [if_pos h2], by omega⟩
        · exact ⟨1, by rw [if_neg h2]; rfl, by omega⟩
    obtain ⟨N, hN1, hN2⟩ := hN
    refine ⟨_, rfl, a, _, rfl, .inl hS, _, _, rfl, _, _, rfl, _, rfl, ?_, ?_, ?_⟩
    · rw [hN1]; omega
    · rw [hN1]; omega
    refine for_it (walk_rn (n := N) hN1) (fun k σ H' => (∃ x1 x2 x3 x4 x5 x6 x7 x8 x9 x10 x11 x12 x13 x14, σ = [some (.ref a), x1, x2, x3, x4, x5, x6, x7, x8, x9, x10, x11, x12, x13, x14]) ∧ Ex H H') ⟨⟨_, _, _, _, _, _, _, _, _, _, _, _, _, _, rfl⟩, Ex.refl H⟩ (fun _ _ _ _ _ => trivial) (fun k x σ _ H1 hk hP hy => ?_) (fun σ H1 hP => q H1 hP.2)
    obtain ⟨rfl, rfl⟩ := hy
    obtain ⟨⟨x1, x2, x3, x4, x5, x6, x7, x8, x9, x10, x11, x12, x13, x14, rfl⟩, ex1⟩ := hP
    refine ⟨_, rfl, _, rfl, a, ns, k, rfl, SqL.ex hS ex1, fun i => ⟨i, rfl, fun pp H2 hpp ex2 hp2 => ?_⟩⟩
    have ex02 := ex1.trans ex2
    have pp0 : H pp = none := ex1.free hpp
    refine ⟨_, rfl, by decide, by decide, ?_⟩
    refine for_it (walk_rn (n := 3) rfl) (fun tn σ H' => (∃ x3 x4 x5 x6 x7 x8 x9 x10 x11 x12 x13 x14, σ = [some (.ref a), some (vN k), some (.ref pp), x3, x4, x5, x6, x7, x8, x9, x10, x11, x12, x13, x14]) ∧ ExP pp H H' ∧ Pen H' pp (tn * 2000)) ⟨⟨_, _, _, _, _, _, _, _, _, _, _, _, rfl⟩, ex02.p, hp2⟩ (fun _ _ _ _ _ => trivial) (fun tn x σ _ H3 htn hP hy => ?_) (fun σ H3 hP => ?_)
    · obtain ⟨rfl, rfl⟩ := hy
      obtain ⟨⟨x3, x4, x5, x6, x7, x8, x9, x10, x11, x12, x13, x14, rfl⟩, e3, hp3⟩ := hP
      refine ⟨_, rfl, pp, _, rfl, hp3, by omega, fun m v xo t H4 dm fin8 hM ht hp4 e4 => ?_⟩
      refine ⟨t, _, rfl, .of ht, rfl, _, _, rfl, _, _, rfl, rfl, ?_⟩
      refine ⟨_, rfl, _, rfl, pp, v, m, _, rfl, hM, dm, hp4, by omega, fun W u H5 wd hWd hp5 e5 => ?_⟩
      have wok := wd.ok dm
      have mok := dm.ok
      have tM := tame_M dm fin8
      have tW := tame_W dm fin8 wd
      have hM5 := hM.tu (e5.tu hp4)
      have e05 := (e3.trans e4).trans e5
      refine ⟨_, rfl, u, W, 193, rfl, hWd, wok, tW, fun b H6 ex6 hb => ⟨b, rfl, ?_⟩⟩
      have hp6 := hp5.ex ex6
      have e06 := e05.trans ex6.p
      cases b with
      | false =>
        refine itF Bool.false_ne_true ?_
        exact ⟨⟨_, _, _, _, _, _, _, _, _, _, _, _, rfl⟩, e06, hp6.mono (by omega)⟩
      | true =>
        refine itT rfl ?_
        have tW14 := hb rfl
        -- the classes
        refine ⟨_, rfl, v, m, 8, rfl, hM5.ex ex6, mok, tM, by omega, steady_M dm, fun g one H7 ex7 cg hg => ?_⟩
        refine ⟨_, rfl, u, W, 14, rfl, (hWd.ex ex6).ex ex7, wok, tW14, by omega, steady_W dm wd, fun g' other H8 ex8 cg' hg' => ⟨_, _, rfl, ?_⟩⟩
        have hg8 := hg.ex ex8
        have ex68 := ex7.trans ex8
        have hM8 := (hM5.ex ex6).ex ex68
        have hW8 := (hWd.ex ex6).ex ex68
        have hp8 := hp6.ex ex68
        have e08 := e06.trans ex68.p
        have gl := cg.len tM
        have gl' := cg'.len tW14
        obtain ⟨p1, ys1, rfl, hp1, rys1⟩ := hg8.inv_tup
        obtain ⟨p2, ys2, rfl, hp2', rys2⟩ := hg'.inv_tup
        have yl1 : ys1.length = g.length := by rw [rys1.length, List.length_map]
        have yl2 : ys2.length = g'.length := by rw [rys2.length, List.length_map]
        have hgg := law_len dm wd cg cg'
        refine ⟨_, rfl, p1, ys1, rfl, .inr (.of hp1), _, rfl, p2, ys2, rfl, .inr (.of hp2'), rfl, _, rfl, ?_⟩
        refine itF (by rw [yl1, yl2, hgg, decI rfl]; exact Bool.false_ne_true) ?_
        -- the marks
        refine ⟨by simp, fun mk hmk => ?_⟩
        have nmk : mk ≠ pp := ne_pen hp8 hmk
        have mk0 : H mk = none := e08.freeH nmk hmk
        have exm := Ex.new (o := .lst []) hmk
        have hmm : upd H8 mk (.lst []) mk = some (.lst []) := upd_same
        have hp9 := hp8.ex exm
        generalize upd H8 mk (.lst []) = H9 at exm hmm hp9
        refine ⟨_, rfl, by decide, by decide, ?_⟩
        refine for_it (walk_rn (n := 12) rfl) (fun lp σ H' => (∃ x10 x11 x12 x13 x14, σ = [some (.ref a), some (vN k), some (.ref pp), some (vN tn), some v, some xo, some u, some (.ref p1), some (.ref p2), some (.ref mk), x10, x11, x12, x13, x14]) ∧ ExP pp H H' ∧ ExP pp H8 H' ∧ Pen H' pp (tn * 2000 + 1000 + lp * 32) ∧ ∃ (ms : List V) (cs : List (List Nat × List Nat)), H' mk = some (.lst ms) ∧ Paired (MarkV mk pp H') ms cs ∧ cs.length = lp ∧ ∀ c ∈ cs, MarkOf m W g g' c)
          ⟨⟨_, _, _, _, _, rfl⟩, e08.trans exm.p, exm.p, hp9.mono (by omega), [], [], hmm, .nil, rfl, by simp⟩ (fun _ _ _ _ _ => trivial) (fun lp x σ _ H10 hlp hP hy => ?_) (fun σ H10 hP => ?_)
        · obtain ⟨rfl, rfl⟩ := hy
          obtain ⟨⟨x10, x11, x12, x13, x14, rfl⟩, e10, f10, hp10, ms, cs, hms, rms, csl, hcs⟩ := hP
          have ml : ms.length = cs.length := rms.length
          have t810 : Tu H8 H10 := f10.tu hp8
          have hM10 := hM8.tu t810
          obtain ⟨pm, pa, pi, pc, ai, ac, M⟩ := hM10.mv
          have hv := M.e
          refine ⟨_, rfl, _, rfl, pm, _, _, _, hv, rfl, .of M.at0, rfl, pp, _, m.ar, 6, _, rfl, .tup M.at1 (rds_n _), dm.ar, by omega, by omega, hp10, by omega, fun tr vt H11 otr trl hvt hp11 e11 => ?_⟩
          have t811 : Tu H8 H11 := t810.trans (e11.tu hp10)
          -- mine
          refine ⟨_, rfl, _, rfl, _, rfl, v, vt, m, tr, rfl, hM8.tu t811, mok, hvt, otr, fun r v1 H12 ex12 hr hv1 => ?_⟩
          have rl := last_len hr
          refine ⟨v1, r, rfl, hv1, by rw [rl]; exact mok.n1, by rw [rl]; exact mok.n4, last_M dm otr hr, fun v2 H13 ex13 hv2 => ?_⟩
          obtain ⟨pr, sv, rfl, hpr, hsv⟩ := hv2.rel
          have ex1113 := ex12.trans ex13
          have t813 : Tu H8 H13 := t811.trans ex1113.tu
          refine ⟨pr, _, _, _, rfl, rfl, .of hpr, rfl, .ref p1, sv, g, relS r, rfl, hg8.tu t813, hsv, by omega, fun l1 H14 hl1 ex14 hl1' => ?_⟩
          have ex1114 := ex1113.trans ex14
          have t814 : Tu H8 H14 := t811.trans ex1114.tu
          have e814 : ExP pp H10 H14 := e11.trans ex1114.p
          have hp14 := hp11.ex ex1114
          have hms14 := e814 _ _ nmk hms
          have nl1 : l1 ≠ mk := fun e => by
            have h1 : H13 mk = some (.lst ms) := (e11.trans ex1113.p) _ _ nmk hms
            rw [e, h1] at hl1
            cases hl1
          have nl1p : l1 ≠ pp := ne_pen (hp11.ex ex1113) hl1
          -- its
          refine ⟨_, rfl, .inl ⟨rfl, ms, .of hms14⟩, ?_⟩
          refine ⟨_, rfl, _, rfl, _, rfl, _, rfl, u, vt, W, tr, rfl, hW8.tu t814, wok, hvt.ex ex1114, by rw [wd.ar]; exact otr, fun r' v3 H15 ex15 hr' hv3 => ?_⟩
          have rl' := last_len hr'
          refine ⟨v3, r', rfl, hv3, by rw [rl']; exact wok.n1, by rw [rl']; exact wok.n4, last_W dm wd otr hr', fun v4 H16 ex16 hv4 => ?_⟩
          obtain ⟨pr', sv', rfl, hpr', hsv'⟩ := hv4.rel
          have ex1416 := ex15.trans ex16
          have t816 : Tu H8 H16 := t814.trans ex1416.tu
          refine ⟨pr', _, _, _, rfl, rfl, .of hpr', rfl, .ref p2, sv', g', relS r', rfl, hg'.tu t816, hsv', by omega, fun l2 H17 hl2 ex17 hl2' => ?_⟩
          have ex1417 := ex1416.trans ex17
          have hms17 := ex1417 _ _ hms14
          have hl1'' := ex1417 _ _ hl1'
          have nl2 : l2 ≠ mk := fun e => by
            have h1 : H16 mk = some (.lst ms) := ex1416 _ _ hms14
            rw [e, h1] at hl2
            cases hl2
          have nl2p : l2 ≠ pp := ne_pen (hp14.ex ex1416) hl2
          refine ⟨by simp [sizeLine], fun tt htt => ?_⟩
          have exT := Ex.new (o := .tup [.ref l1, .ref l2]) htt
          have hms18 := exT _ _ hms17
          have e1018 : ExP pp H10 (upd H17 tt (.tup [.ref l1, .ref l2])) := (e814.trans ex1417.p).trans exT.p
          have hp18 := (hp14.ex ex1417).ex exT
          refine ⟨mk, ms, _, rfl, rfl, hms18, by simp only [sizeLine]; omega, ⟨_, _, _, _, _, rfl⟩, (e10.trans e1018).mut mk0, (f10.trans e1018).mut hmk, (hp18.put nmk).mono (by omega), _, cs ++ [(clsF g (relS r), clsF g' (relS r'))], upd_same, ?_, by simp [csl], fun c hc => ?_⟩
          · exact pair_snoc' (pair_mapP rms fun x c h => (h.exP e1018 hp10).put hms18) (MarkV.put ⟨tt, l1, l2, rfl, upd_same, exT _ _ hl1'', exT _ _ hl2', nl1, nl2, nl1p, nl2p⟩ hms18)
          · rcases List.mem_append.mp hc with hc | hc
            · exact hcs c hc
            · rw [List.mem_singleton.mp hc]
              exact ⟨tr, r, r', otr, hr, hr', rfl⟩
        · obtain ⟨⟨x10, x11, x12, x13, x14, rfl⟩, e10, f10, hp10, ms, cs, hms, rms, csl, hcs⟩ := hP
          have ml : ms.length = cs.length := rms.length
          -- all agree
          refine ⟨_, rfl, mk, rfl, ⟨ms, .of hms⟩, ?_⟩
          refine for_it (walk_list (xs := ms)) (fun i σ H' => (∃ x10 x11 x12 x13 x14, σ = [some (.ref a), some (vN k), some (.ref pp), some (vN tn), some v, some xo, some u, some (.ref p1), some (.ref p2), some (.ref mk), x10, x11, x12, x13, x14]) ∧ Ex H10 H') ⟨⟨_, _, _, _, _, rfl⟩, Ex.refl H10⟩ (fun i σ H' _ hP => .of (hP.2 _ _ hms)) (fun i x σ _ H11 hi hP hy => ?_) (fun σ H11 hP => ?_)
          · obtain ⟨rfl, hx⟩ := hy
            obtain ⟨⟨x10, x11, x12, x13, x14, rfl⟩, ex11⟩ := hP
            obtain ⟨c, hc, t0, a0, b0, rfl, ht0, ha0, hb0, _⟩ := pair_at rms hx
            refine ⟨t0, _, rfl, .of (ex11 _ _ ht0), rfl, _, _, rfl, _, _, rfl, rfl, ?_⟩
            refine ⟨_, rfl, mk, rfl, ⟨ms, .of (ex11 _ _ hms)⟩, fun D2 hD => ?_⟩
            refine lc_it (walk_list (xs := ms)) (fun j H' => Ex H11 H' ∧ H' D2 = some (.lst [])) ⟨Ex.new hD, upd_same⟩ (fun j H' _ hP => .of (hP.1 _ _ (ex11 _ _ hms))) (fun j x _ H12 hj hP hy => ?_) (fun H12 hP => ?_)
            · obtain ⟨rfl, hxj⟩ := hy
              obtain ⟨ex12, hD2⟩ := hP
              have exA := ex11.trans ex12
              obtain ⟨c2, hc2, t2, a2, b2, rfl, ht2, ha2, hb2, _⟩ := pair_at rms hxj
              refine ⟨rfl, ?_⟩
              refine ⟨_, rfl, t2, _, _, _, rfl, rfl, .of (exA _ _ ht2), rfl, _, rfl, .list (c2.1.map dN), .list (c.1.map dN), .lst (.of (exA _ _ ha2)) (rds_n _).dp, .lst (.of (exA _ _ ha0)) (rds_n _).dp, nats_shapedL _, nats_shapedL _, ?_⟩
              refine ⟨_, rfl, t2, _, _, _, rfl, rfl, .of (exA _ _ ht2), rfl, _, rfl, .list (c2.2.map dN), .list (c.2.map dN), .lst (.of (exA _ _ hb2)) (rds_n _).dp, .lst (.of (exA _ _ hb0)) (rds_n _).dp, nats_shapedL _, nats_shapedL _, ?_⟩
              rw [natsL_eqv, natsL_eqv]
              have agree : decide (c2.1 = c.1) = decide (c2.2 = c.2) := by
                obtain ⟨t1, r1, r1', o1, l1, l1', rfl⟩ := hcs c (List.mem_of_getElem? hc)
                obtain ⟨t2, r2, r2', o2, l2, l2', rfl⟩ := hcs c2 (List.mem_of_getElem? hc2)
                have := law_marks dm wd cg cg' o2 o1 l2 l2' l1 l1'
                by_cases h : clsF g (relS r2) = clsF g (relS r1)
                · simp [h, this.mp h]
                · have h2 : ¬ clsF g' (relS r2') = clsF g' (relS r1') := fun z => h (this.mpr z)
                  simp [h, h2]
              refine ⟨rfl, _, rfl, ?_⟩
              rw [agree]
              refine itF (by rw [decide_eq_true rfl]; exact Bool.false_ne_true) ?_
              exact ⟨ex12, hD2⟩
            · obtain ⟨ex12, hD2⟩ := hP
              refine ⟨by simp, fun z hz => ?_⟩
              have exz := Ex.new (o := .lst []) hz
              refine ⟨.list [], .list [], .lst (.of (exz _ _ hD2)) .nil, .lst (.of upd_same) .nil, nil_shaped, nil_shaped, _, rfl, ?_⟩
              refine itF (by rw [show PyData.eqv (.list []) (.list []) = true from ints_ne []]; exact Bool.false_ne_true) ?_
              exact ⟨⟨_, _, _, _, _, rfl⟩, (ex11.trans ex12).trans exz⟩
          · obtain ⟨⟨x10, x11, x12, x13, x14, rfl⟩, ex11⟩ := hP
            exact ⟨⟨_, _, _, _, _, _, _, _, _, _, _, _, rfl⟩, e10.trans ex11.p, (hp10.ex ex11).mono (by omega)⟩
    · obtain ⟨⟨x3, x4, x5, x6, x7, x8, x9, x10, x11, x12, x13, x14, rfl⟩, e3, hp3⟩ := hP
      exact ⟨⟨_, _, _, _, _, _, _, _, _, _, _, _, _, _, rfl⟩, e3.ex pp0⟩
end
end Cp
end

section
set_option Elab.async false
set_option linter.all false
set_option maxRecDepth 100000
set_option maxHeartbeats 0
namespace Cp
open PySem PySem.Spec PyProof.Rows L2
theorem mk_fun {K : PySem.W.Frag} {x : Str} {st : Stmt} {f : Addr} {fd : FuncData} (h : FunD K x x (defArgs st) (defBody st) (defScope st) [] [] f fd) : Fun K x x st f fd := by
  obtain ⟨⟨oc, od, dV, kV, doc, pm, an, cdv, ct, osl, e1, e2, e3, e4, e5⟩, kp⟩ := h
  rcases e4 with ⟨_, rfl⟩ | ⟨z, _⟩
  · exact ⟨⟨oc, od, kV, doc, pm, an, cdv, ct, osl, e1, e2, e3⟩, kp⟩
  · exact absurd rfl z
theorem mk_def {K : PySem.W.Frag} {h : Heap} {mg : Str → Option Value} (X : K.In h) (G : h.Ns mainGlobals mg) (c : He.SaysD faL fnL K) (i : Nat) {x : Str} {st : Stmt} (hd : fnL[i]? = some ⟨(x, none), x, x, defArgs st, defBody st, defScope st, [], []⟩) (hf : faL[i]? = some (.glo x)) : Def K mg x st := by
  obtain ⟨fd, F⟩ := c.def_ i hd
  exact ⟨_, fd, mk_fun F, He.glo_ok X G (c.fact i hf)⟩
theorem mk_tx {K : PySem.W.Frag} {h : Heap} {mg : Str → Option Value} (X : K.In h) (G : h.Ns mainGlobals mg) (c : He.SaysD faL fnL K) : Tx mg where
  isinstance := He.free_ok X G (c.fact 69 (f := .free "isinstance") rfl)
  int := He.free_ok X G (c.fact 70 (f := .free "int") rfl)
  bool := He.free_ok X G (c.fact 71 (f := .free "bool") rfl)
  tuple := He.free_ok X G (c.fact 72 (f := .free "tuple") rfl)
  list := He.free_ok X G (c.fact 73 (f := .free "list") rfl)
  len := He.free_ok X G (c.fact 74 (f := .free "len") rfl)
  all := He.free_ok X G (c.fact 75 (f := .free "all") rfl)
  max := He.free_ok X G (c.fact 76 (f := .free "max") rfl)
  min := He.free_ok X G (c.fact 77 (f := .free "min") rfl)
  sum := He.free_ok X G (c.fact 78 (f := .free "sum") rfl)
  enumerate := He.free_ok X G (c.fact 79 (f := .free "enumerate") rfl)
  range := He.free_ok X G (c.fact 80 (f := .free "range") rfl)
  zip := He.free_ok X G (c.fact 81 (f := .free "zip") rfl)
  sorted := He.free_ok X G (c.fact 82 (f := .free "sorted") rfl)
  cMOST_OPERATORS := He.int_ok X G (c.fact 58 (f := .int "MOST_OPERATORS" 6) rfl)
  cMOST_ARITY := He.int_ok X G (c.fact 59 (f := .int "MOST_ARITY" 2) rfl)
  cMOST_FORMS := He.int_ok X G (c.fact 60 (f := .int "MOST_FORMS" 4) rfl)
  cMOST_INSTRUCTIONS := He.int_ok X G (c.fact 61 (f := .int "MOST_INSTRUCTIONS" 24) rfl)
  cMOST_CONVERSIONS := He.int_ok X G (c.fact 62 (f := .int "MOST_CONVERSIONS" 12) rfl)
  cMOST_PRICE := He.int_ok X G (c.fact 63 (f := .int "MOST_PRICE" 20) rfl)
  cGOAL := He.int_ok X G (c.fact 64 (f := .int "GOAL" 0) rfl)
  cMOST_STATES := He.int_ok X G (c.fact 65 (f := .int "MOST_STATES" 200) rfl)
  cFORMS_DECIDED := He.int_ok X G (c.fact 66 (f := .int "FORMS_DECIDED" 2) rfl)
  cTIMES := He.int_ok X G (c.fact 67 (f := .int "TIMES" 3) rfl)
  cMOST_PARTED := He.int_ok X G (c.fact 68 (f := .int "MOST_PARTED" 60) rfl)
theorem facts {P : Program} {w : World} {K : PySem.W.Frag} {h : Heap} {mg : Str → Option Value} {fa : Addr} (X : K.In h) (G : h.Ns mainGlobals mg) (hfa : mg ("law" : Str) = some (.ref fa)) (c : He.SaysD faL fnL K) :
    ∃ fd : FuncData, (∀ (s : Shared) (v : Value), BindsTo s fd ⟨[v], []⟩ [("_law_script", v)]) ∧ ∀ base : Heap, FnOk P w K mg base CX0 9 fa fd ["_law_script"] (sp_law K) := by
  have T := mk_tx X G c
  obtain ⟨fd, FD⟩ := c.def_ 57 (d := dd_law) rfl
  have e := hfa.symm.trans (He.glo_ok X G (c.fact 57 (f := .glo "law") rfl))
  cases e
  have F : Fun K "law" "law" s_law _ fd := mk_fun FD
  have b := FunD.bindsA (ps := ["_law_script"]) FD fun _ _ _ _ _ _ us hl => match us, hl with | [_], _ => rfl
  refine ⟨fd, fun s v => b s [v] rfl, fun base => ?_⟩
  · skip
    have D_less : Def K mg "less" s_less := mk_def X G c 11 rfl rfl
    have C_less := ok_less (P := P) (w := w) (K := K) (mg := mg) (base := base) T D_less 
    have D_is_between : Def K mg "is_between" s_is_between := mk_def X G c 0 rfl rfl
    have C_is_between := ok_is_between (P := P) (w := w) (K := K) (mg := mg) (base := base) T D_is_between 
    have D_is_count : Def K mg "is_count" s_is_count := mk_def X G c 1 rfl rfl
    have C_is_count := ok_is_count (P := P) (w := w) (K := K) (mg := mg) (base := base) T D_is_count 
    have D_total : Def K mg "total" s_total := mk_def X G c 12 rfl rfl
    have C_total := ok_total (P := P) (w := w) (K := K) (mg := mg) (base := base) T D_total 
    have D_ways_of : Def K mg "ways_of" s_ways_of := mk_def X G c 13 rfl rfl
    have C_ways_of := ok_ways_of (P := P) (w := w) (K := K) (mg := mg) (base := base) T D_ways_of C_less C_total
    have D_computed : Def K mg "computed" s_computed := mk_def X G c 14 rfl rfl
    have C_computed := ok_computed (P := P) (w := w) (K := K) (mg := mg) (base := base) T D_computed C_less C_total
    have D_converted : Def K mg "converted" s_converted := mk_def X G c 15 rfl rfl
    have C_converted := ok_converted (P := P) (w := w) (K := K) (mg := mg) (base := base) T D_converted C_less C_total
    have D_joined_row : Def K mg "joined_row" s_joined_row := mk_def X G c 16 rfl rfl
    have C_joined_row := ok_joined_row (P := P) (w := w) (K := K) (mg := mg) (base := base) T D_joined_row C_computed C_converted
    have D_base_of : Def K mg "base_of" s_base_of := mk_def X G c 20 rfl rfl
    have C_base_of := ok_base_of (P := P) (w := w) (K := K) (mg := mg) (base := base) T D_base_of 
    have D_relative_of : Def K mg "relative_of" s_relative_of := mk_def X G c 21 rfl rfl
    have C_relative_of := ok_relative_of (P := P) (w := w) (K := K) (mg := mg) (base := base) T D_relative_of C_base_of
    have D_stepped : Def K mg "stepped" s_stepped := mk_def X G c 24 rfl rfl
    have C_stepped := ok_stepped (P := P) (w := w) (K := K) (mg := mg) (base := base) T D_stepped C_joined_row C_relative_of
    have D_is_arities : Def K mg "is_arities" s_is_arities := mk_def X G c 2 rfl rfl
    have C_is_arities := ok_is_arities (P := P) (w := w) (K := K) (mg := mg) (base := base) T D_is_arities C_is_between
    have D_is_instruction : Def K mg "is_instruction" s_is_instruction := mk_def X G c 3 rfl rfl
    have C_is_instruction := ok_is_instruction (P := P) (w := w) (K := K) (mg := mg) (base := base) T D_is_instruction C_is_between
    have D_is_conversion : Def K mg "is_conversion" s_is_conversion := mk_def X G c 4 rfl rfl
    have C_is_conversion := ok_is_conversion (P := P) (w := w) (K := K) (mg := mg) (base := base) T D_is_conversion C_is_between
    have D_is_machine : Def K mg "is_machine" s_is_machine := mk_def X G c 5 rfl rfl
    have C_is_machine := ok_is_machine (P := P) (w := w) (K := K) (mg := mg) (base := base) T D_is_machine C_is_between C_is_arities C_is_instruction C_is_conversion
    have D_need_machine : Def K mg "need_machine" s_need_machine := mk_def X G c 6 rfl rfl
    have C_need_machine := ok_need_machine (P := P) (w := w) (K := K) (mg := mg) (base := base) T D_need_machine C_is_machine
    have D_is_node : Def K mg "is_node" s_is_node := mk_def X G c 8 rfl rfl
    have C_is_node := ok_is_node (P := P) (w := w) (K := K) (mg := mg) (base := base) T D_is_node C_is_between
    have D_is_written : Def K mg "is_written" s_is_written := mk_def X G c 9 rfl rfl
    have C_is_written := ok_is_written (P := P) (w := w) (K := K) (mg := mg) (base := base) T D_is_written C_is_node
    have D_need_tree : Def K mg "need_tree" s_need_tree := mk_def X G c 10 rfl rfl
    have C_need_tree := ok_need_tree (P := P) (w := w) (K := K) (mg := mg) (base := base) T D_need_tree C_is_written
    have D_need_machine_and_tree : Def K mg "need_machine_and_tree" s_need_machine_and_tree := mk_def X G c 18 rfl rfl
    have C_need_machine_and_tree := ok_need_machine_and_tree (P := P) (w := w) (K := K) (mg := mg) (base := base) T D_need_machine_and_tree C_need_machine C_need_tree
    have D_rows_of : Def K mg "rows_of" s_rows_of := mk_def X G c 17 rfl rfl
    have C_rows_of := ok_rows_of (P := P) (w := w) (K := K) (mg := mg) (base := base) T D_rows_of C_ways_of C_joined_row
    have D_prices : Def K mg "prices" s_prices := mk_def X G c 19 rfl rfl
    have C_prices := ok_prices (P := P) (w := w) (K := K) (mg := mg) (base := base) T D_prices C_need_machine_and_tree C_rows_of
    have D_is_row : Def K mg "is_row" s_is_row := mk_def X G c 22 rfl rfl
    have C_is_row := ok_is_row (P := P) (w := w) (K := K) (mg := mg) (base := base) T D_is_row C_is_count
    have D_relative : Def K mg "relative" s_relative := mk_def X G c 23 rfl rfl
    have C_relative := ok_relative (P := P) (w := w) (K := K) (mg := mg) (base := base) T D_relative C_is_row C_relative_of
    have D_spread : Def K mg "spread" s_spread := mk_def X G c 25 rfl rfl
    have C_spread := ok_spread (P := P) (w := w) (K := K) (mg := mg) (base := base) T D_spread 
    have D_greatest_price : Def K mg "greatest_price" s_greatest_price := mk_def X G c 7 rfl rfl
    have C_greatest_price := ok_greatest_price (P := P) (w := w) (K := K) (mg := mg) (base := base) T D_greatest_price 
    have D_steps_from : Def K mg "steps_from" s_steps_from := mk_def X G c 26 rfl rfl
    have C_steps_from := ok_steps_from (P := P) (w := w) (K := K) (mg := mg) (base := base) T D_steps_from 
    have D_key_of : Def K mg "key_of" s_key_of := mk_def X G c 29 rfl rfl
    have C_key_of := ok_key_of (P := P) (w := w) (K := K) (mg := mg) (base := base) T D_key_of 
    have D_ordered : Def K mg "ordered" s_ordered := mk_def X G c 30 rfl rfl
    have C_ordered := ok_ordered (P := P) (w := w) (K := K) (mg := mg) (base := base) T D_ordered C_key_of
    have D_steps_of : Def K mg "steps_of" s_steps_of := mk_def X G c 33 rfl rfl
    have C_steps_of := ok_steps_of (P := P) (w := w) (K := K) (mg := mg) (base := base) T D_steps_of 
    have D_moves_of : Def K mg "moves_of" s_moves_of := mk_def X G c 34 rfl rfl
    have C_moves_of := ok_moves_of (P := P) (w := w) (K := K) (mg := mg) (base := base) T D_moves_of C_ways_of C_steps_of C_stepped
    have D_first_steps : Def K mg "first_steps" s_first_steps := mk_def X G c 35 rfl rfl
    have C_first_steps := ok_first_steps (P := P) (w := w) (K := K) (mg := mg) (base := base) T D_first_steps 
    have D_first_rest : Def K mg "first_rest" s_first_rest := mk_def X G c 36 rfl rfl
    have C_first_rest := ok_first_rest (P := P) (w := w) (K := K) (mg := mg) (base := base) T D_first_rest 
    have D_marks_of : Def K mg "marks_of" s_marks_of := mk_def X G c 37 rfl rfl
    have C_marks_of := ok_marks_of (P := P) (w := w) (K := K) (mg := mg) (base := base) T D_marks_of 
    have D_parts_of : Def K mg "parts_of" s_parts_of := mk_def X G c 38 rfl rfl
    have C_parts_of := ok_parts_of (P := P) (w := w) (K := K) (mg := mg) (base := base) T D_parts_of C_first_steps C_first_rest C_marks_of
    have D_explored : Def K mg "explored" s_explored := mk_def X G c 27 rfl rfl
    have C_explored := ok_explored (P := P) (w := w) (K := K) (mg := mg) (base := base) T D_explored C_ways_of C_greatest_price C_steps_from C_stepped C_spread
    have D_found_states : Def K mg "found_states" s_found_states := mk_def X G c 28 rfl rfl
    have C_found_states := ok_found_states (P := P) (w := w) (K := K) (mg := mg) (base := base) T D_found_states C_explored
    have D_few_states : Def K mg "few_states" s_few_states := mk_def X G c 32 rfl rfl
    have C_few_states := ok_few_states (P := P) (w := w) (K := K) (mg := mg) (base := base) T D_few_states C_found_states
    have D_states : Def K mg "states" s_states := mk_def X G c 31 rfl rfl
    have C_states := ok_states (P := P) (w := w) (K := K) (mg := mg) (base := base) T D_states C_need_machine C_ordered C_found_states
    have D_classes : Def K mg "classes" s_classes := mk_def X G c 39 rfl rfl
    have C_classes := ok_classes (P := P) (w := w) (K := K) (mg := mg) (base := base) T D_classes C_need_machine C_ordered C_few_states C_moves_of C_parts_of
    have D_law_cell_at : Def K mg "_law_cell_at" s_law_cell_at := mk_def X G c 40 rfl rfl
    have C_law_cell_at := ok_law_cell_at (P := P) (w := w) (K := K) (mg := mg) (base := base) T D_law_cell_at 
    have D_law_pen : Def K mg "_law_pen" s_law_pen := mk_def X G c 41 rfl rfl
    have C_law_pen := ok_law_pen (P := P) (w := w) (K := K) (mg := mg) (base := base) T D_law_pen 
    have D_law_draw : Def K mg "_law_draw" s_law_draw := mk_def X G c 42 rfl rfl
    have C_law_draw := ok_law_draw (P := P) (w := w) (K := K) (mg := mg) (base := base) T D_law_draw 
    have D_law_pick : Def K mg "_law_pick" s_law_pick := mk_def X G c 43 rfl rfl
    have C_law_pick := ok_law_pick (P := P) (w := w) (K := K) (mg := mg) (base := base) T D_law_pick C_law_draw
    have D_law_arities : Def K mg "_law_arities" s_law_arities := mk_def X G c 44 rfl rfl
    have C_law_arities := ok_law_arities (P := P) (w := w) (K := K) (mg := mg) (base := base) T D_law_arities C_law_draw C_law_pick
    have D_law_class_of : Def K mg "_law_class_of" s_law_class_of := mk_def X G c 55 rfl rfl
    have C_law_class_of := ok_law_class_of (P := P) (w := w) (K := K) (mg := mg) (base := base) T D_law_class_of 
    have D_law_rel : Def K mg "_law_rel" s_law_rel := mk_def X G c 47 rfl rfl
    have C_law_rel := ok_law_rel (P := P) (w := w) (K := K) (mg := mg) (base := base) T D_law_rel 
    have D_law_pairs : Def K mg "_law_pairs" s_law_pairs := mk_def X G c 51 rfl rfl
    have C_law_pairs := ok_law_pairs (P := P) (w := w) (K := K) (mg := mg) (base := base) T D_law_pairs 
    have D_law_over : Def K mg "_law_over" s_law_over := mk_def X G c 50 rfl rfl
    have C_law_over := ok_law_over (P := P) (w := w) (K := K) (mg := mg) (base := base) T D_law_over 
    have D_law_tree : Def K mg "_law_tree" s_law_tree := mk_def X G c 48 rfl rfl
    have C_law_tree := ok_law_tree (P := P) (w := w) (K := K) (mg := mg) (base := base) T D_law_tree C_law_draw C_law_pick
    have D_law_machine : Def K mg "_law_machine" s_law_machine := mk_def X G c 49 rfl rfl
    have C_law_machine := ok_law_machine (P := P) (w := w) (K := K) (mg := mg) (base := base) T D_law_machine C_law_draw C_law_arities
    have D_law_wider : Def K mg "_law_wider" s_law_wider := mk_def X G c 54 rfl rfl
    have C_law_wider := ok_law_wider (P := P) (w := w) (K := K) (mg := mg) (base := base) T D_law_wider C_law_draw
    have D_law_ways : Def K mg "_law_ways" s_law_ways := mk_def X G c 45 rfl rfl
    have C_law_ways := ok_law_ways (P := P) (w := w) (K := K) (mg := mg) (base := base) T D_law_ways 
    have D_law_row : Def K mg "_law_row" s_law_row := mk_def X G c 46 rfl rfl
    have C_law_row := ok_law_row (P := P) (w := w) (K := K) (mg := mg) (base := base) T D_law_row 
    have D_law_order : Def K mg "_law_order" s_law_order := mk_def X G c 52 rfl rfl
    have C_law_order := ok_law_order (P := P) (w := w) (K := K) (mg := mg) (base := base) T D_law_order C_law_ways C_law_pairs C_law_row C_law_rel C_law_over
    have D_law_few : Def K mg "_law_few" s_law_few := mk_def X G c 53 rfl rfl
    have C_law_few := ok_law_few (P := P) (w := w) (K := K) (mg := mg) (base := base) T D_law_few C_law_pick C_law_machine C_law_order
    have D_law_is_few : Def K mg "_law_is_few" s_law_is_few := mk_def X G c 56 rfl rfl
    have C_law_is_few := ok_law_is_few (P := P) (w := w) (K := K) (mg := mg) (base := base) T D_law_is_few C_states
    exact ok_law F T C_law_cell_at C_law_pen C_law_few C_law_wider C_law_is_few C_classes C_law_tree C_law_class_of C_relative C_prices
end Cp
open PySem PySem.W PySem.Calls PyProof.Rows
theorem PySem.Challenge.cw_codepick_k53_whole_a_form_more_holds : PySem.Challenge.rw_codepick_k53_whole_a_form_more.Holds := by
  w_on; o_law
  refine HandSHeadRun.head_any (r := OpenLaw.row PySem.Challenge.rw_codepick_k53_whole_a_form_more) (q := view (OpenLaw.row PySem.Challenge.rw_codepick_k53_whole_a_form_more).prog [81]) (H := Cp.hk) (ob := Cp.ob) (M := 4000) (loose := Cp.looseL) (d := HandSHeadRun.topDef (OpenLaw.row PySem.Challenge.rw_codepick_k53_whole_a_form_more).prog 81) (kwd := []) Cp.ob_eq
    (by kernel_rfl) (fun s => by kernel_rfl) Cp.run (by kernel_rfl) (by kernel_rfl) (by kernel_rfl) (by rfl) (by first | assumption | decide +kernel) (by decide +kernel) ⟨rfl, rfl, rfl, rfl, rfl, by decide +kernel⟩ ?hw ?hc
  case hw => w_witness2
  case hc =>
    refine L2.walk_ofE (l := PySem.Challenge.rw_codepick_k53_whole_a_form_more) (n := 63) (k := 9) (x := "_law_script") (CX := L2.CX0) rfl (by decide) (by kernel_rfl) ⟨rfl, by decide, by decide⟩ ?F (fun _ _ _ _ z => z)
    intro w mg fa h Y G hmg0
    obtain ⟨K, KX, c⟩ := Y
    have hmg : mg ("law" : PySem.Str) = some (.ref fa) := by
      have e : (HandSHeadRun.topDef (OpenLaw.row PySem.Challenge.rw_codepick_k53_whole_a_form_more).prog 81).name = ("law" : PySem.Str) := by kernel_rfl
      rw [← e]
      exact hmg0
    obtain ⟨fd, hb, hF⟩ := Cp.facts (P := (PySem.Challenge.rw_codepick_k53_whole_a_form_more).prog) (w := w) KX G hmg c
    exact ⟨K, fd, Cp.sp_law K, KX, hb, fun H a ns _ _ hS => ⟨a, ns, rfl, hS, fun _ _ => rfl⟩, fun base _ _ => hF base⟩
end
