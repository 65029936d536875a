import PyProof.Rows.All
import Wide.All
import OpenK.AllK
import Wide.FinOn
import HandS.ForMost
import HandS.Exc
import HandS.ExcOwn
import HandS.More
import HandS.Codes
import HandS.CallLocal
import HandS.StrMore
import HandS.Defaults
import HandS.HeadHook4
import HandS.TupMul
import PySem.Challenge.RW_watchfloor_k89_language_whole_shown_is_p
import KE.KStateDown
import HandS.Head0
import HandS.Head1
import HandS.Head2
import HandS.HeadEnd
set_option Elab.async false
set_option linter.all false
set_option maxRecDepth 100000
set_option maxHeartbeats 4000000
namespace Wf
open PySem PySem.Spec PyProof.Rows L2
open C8 (pe_gc)
/-! ### the text by places -/
def top (i : Nat) : Stmt := PySem.Challenge.pw_watchfloor_k89_language_whole_shown_is_p.main.body.getD i (.Pass ⟨0, 0, 0, 0⟩)
abbrev s_kind_of_binary : Stmt := top 6
abbrev s_M___init__ : Stmt := inClass (top 13) 0
abbrev s_M_turn : Stmt := inClass (top 13) 1
abbrev s_M_finish_operand : Stmt := inClass (top 13) 2
abbrev s_M_begin_selector : Stmt := inClass (top 13) 3
abbrev s_M_finish_selector : Stmt := inClass (top 13) 4
abbrev s_M_finish_over : Stmt := inClass (top 13) 5
abbrev s_M_add_matcher : Stmt := inClass (top 13) 6
abbrev s_M_judge : Stmt := inClass (top 13) 7
abbrev s_M_combine : Stmt := inClass (top 13) 8
abbrev s_M_close : Stmt := inClass (top 13) 9
abbrev s_M_open_aggregate : Stmt := inClass (top 13) 10
abbrev s_M_end_named : Stmt := inClass (top 13) 11
abbrev s_M_has_open : Stmt := inClass (top 13) 12
abbrev s_M_can_end : Stmt := inClass (top 13) 13
abbrev s_at_operand : Stmt := top 15
abbrev s_at_negative : Stmt := top 16
abbrev s_at_done : Stmt := top 17
abbrev s_at_named : Stmt := top 18
abbrev s_at_over_metric : Stmt := top 19
abbrev s_at_over_named : Stmt := top 20
abbrev s_at_label : Stmt := top 21
abbrev s_at_test : Stmt := top 22
abbrev s_at_not_in : Stmt := top 23
abbrev s_at_value : Stmt := top 24
abbrev s_at_list_open : Stmt := top 25
abbrev s_at_item : Stmt := top 26
abbrev s_at_item_end : Stmt := top 27
abbrev s_at_matched : Stmt := top 28
abbrev s_at_range_open : Stmt := top 29
abbrev s_at_span : Stmt := top 30
abbrev s_at_span_end : Stmt := top 31
abbrev s_at_over_close : Stmt := top 32
abbrev s_at_by_open : Stmt := top 33
abbrev s_at_by_name : Stmt := top 34
abbrev s_at_by_end : Stmt := top 35
abbrev s_at_aggregate_open : Stmt := top 36
abbrev s_take : Stmt := top 38
abbrev s_read_word : Stmt := top 49
abbrev s_read_number : Stmt := top 50
abbrev s_read_string : Stmt := top 51
abbrev s_read_symbol : Stmt := top 52
abbrev s_take_token : Stmt := top 53
abbrev s_scan : Stmt := top 54
abbrev s_machine_of : Stmt := top 60
abbrev s_check_depth : Stmt := top 61
abbrev s_check_limits : Stmt := top 62
abbrev s_parse : Stmt := top 63
abbrev s_show_matcher : Stmt := top 65
abbrev s_show_selector : Stmt := top 66
abbrev s_show_aggregate : Stmt := top 67
abbrev s_show_side : Stmt := top 68
abbrev s_show : Stmt := top 69
abbrev s__law_cell : Stmt := top 71
abbrev s__law_draws : Stmt := top 72
abbrev s__law_name : Stmt := top 73
abbrev s__law_worth : Stmt := top 74
abbrev s__law_names : Stmt := top 75
abbrev s__law_worths : Stmt := top 76
abbrev s__law_number : Stmt := top 77
abbrev s__law_kind : Stmt := top 78
abbrev s__law_leaf : Stmt := top 79
abbrev s__law_sign : Stmt := top 80
abbrev s__law_expression : Stmt := top 81
abbrev s__law_of_script : Stmt := top 82
abbrev s__law_strength : Stmt := top 83
abbrev s__law_matcher : Stmt := top 84
abbrev s__law_selector : Stmt := top 85
abbrev s__law_moved : Stmt := top 86
abbrev s__law_side : Stmt := top 87
abbrev s__law_shown : Stmt := top 88
abbrev s_law : Stmt := top 89
/-! ### what the top has written -/
def strengthsL : List (Str × Int) := [("or", 1), ("and", 2), ("unless", 2), ("<", 3), ("<=", 3), (">", 3), (">=", 3), ("==", 3), ("!=", 3), ("+", 4), ("-", 4), ("*", 5)]
def actionsL0 : List (Str × Str) := [("operand", "at_operand"), ("negative", "at_negative"), ("done", "at_done"), ("named", "at_named"), ("over_metric", "at_over_metric"), ("over_named", "at_over_named"), ("label", "at_label"), ("test", "at_test")]
def actionsL1 : List (Str × Str) := [("not_in", "at_not_in"), ("value", "at_value"), ("list_open", "at_list_open"), ("item", "at_item"), ("item_end", "at_item_end"), ("matched", "at_matched"), ("range_open", "at_range_open"), ("span", "at_span")]
def actionsL2 : List (Str × Str) := [("span_end", "at_span_end"), ("over_close", "at_over_close"), ("by_open", "at_by_open"), ("by_name", "at_by_name"), ("by_end", "at_by_end"), ("aggregate_open", "at_aggregate_open")]
def actionsL : List (Str × Str) := actionsL0 ++ (actionsL1 ++ actionsL2)
end Wf


set_option Elab.async false
set_option linter.all false
set_option maxRecDepth 100000
set_option maxHeartbeats 0
namespace Wf
open PySem PySem.Spec PyProof.Rows L2
def hFa0 : List He.Fa := [(.glo "kind_of_binary" : He.Fa), (.glo "at_operand" : He.Fa), (.glo "at_negative" : He.Fa), (.glo "at_done" : He.Fa), (.glo "at_named" : He.Fa), (.glo "at_over_metric" : He.Fa), (.glo "at_over_named" : He.Fa), (.glo "at_label" : He.Fa), (.glo "at_test" : He.Fa), (.glo "at_not_in" : He.Fa), (.glo "at_value" : He.Fa), (.glo "at_list_open" : He.Fa), (.glo "at_item" : He.Fa), (.glo "at_item_end" : He.Fa), (.glo "at_matched" : He.Fa), (.glo "at_range_open" : He.Fa)]
def hFa1 : List He.Fa := [(.glo "at_span" : He.Fa), (.glo "at_span_end" : He.Fa), (.glo "at_over_close" : He.Fa), (.glo "at_by_open" : He.Fa), (.glo "at_by_name" : He.Fa), (.glo "at_by_end" : He.Fa), (.glo "at_aggregate_open" : He.Fa), (.glo "take" : He.Fa), (.glo "read_word" : He.Fa), (.glo "read_number" : He.Fa), (.glo "read_string" : He.Fa), (.glo "read_symbol" : He.Fa), (.glo "take_token" : He.Fa), (.glo "scan" : He.Fa), (.glo "machine_of" : He.Fa), (.glo "check_depth" : He.Fa)]
def hFa2 : List He.Fa := [(.glo "check_limits" : He.Fa), (.glo "parse" : He.Fa), (.glo "show_matcher" : He.Fa), (.glo "show_selector" : He.Fa), (.glo "show_aggregate" : He.Fa), (.glo "show_side" : He.Fa), (.glo "show" : He.Fa), (.glo "_law_cell" : He.Fa), (.glo "_law_draws" : He.Fa), (.glo "_law_name" : He.Fa), (.glo "_law_worth" : He.Fa), (.glo "_law_names" : He.Fa), (.glo "_law_worths" : He.Fa), (.glo "_law_number" : He.Fa), (.glo "_law_kind" : He.Fa), (.glo "_law_leaf" : He.Fa)]
def hFa3 : List He.Fa := [(.glo "_law_sign" : He.Fa), (.glo "_law_expression" : He.Fa), (.glo "_law_of_script" : He.Fa), (.glo "_law_strength" : He.Fa), (.glo "_law_matcher" : He.Fa), (.glo "_law_selector" : He.Fa), (.glo "_law_moved" : He.Fa), (.glo "_law_side" : He.Fa), (.glo "_law_shown" : He.Fa), (.glo "law" : He.Fa), (.glo "Machine" : He.Fa), (.glo "ARITHMETIC" : He.Fa), (.glo "JOINS" : He.Fa), (.glo "OVER_WORDS" : He.Fa), (.glo "AGGREGATE_WORDS" : He.Fa), (.glo "JOIN_WORDS" : He.Fa)]
def hFa4 : List He.Fa := [(.glo "PAIRS" : He.Fa), (.glo "STRENGTHS" : He.Fa), (.glo "ACTIONS" : He.Fa), (.free "len" : He.Fa), (.free "int" : He.Fa), (.free "str" : He.Fa), (.free "tuple" : He.Fa), (.free "list" : He.Fa), (.free "range" : He.Fa), (.free "enumerate" : He.Fa), (.int "MOST" 6 : He.Fa), (.int "MOST_CHARS" 300 : He.Fa), (.int "MOST_WORD" 20 : He.Fa), (.int "NUMBER_BOUND" 1000000000000000 : He.Fa), (.int "MOST_OPEN" 20 : He.Fa), (.int "MOST_SELECTORS" 6 : He.Fa)]
def hFa5 : List He.Fa := [(.int "MOST_OPERATORS" 8 : He.Fa), (.int "LONGEST" 1000 : He.Fa), (.str "LETTERS" "abcdefghijklmnopqrstuvwxyz" : He.Fa), (.str "WORD_CHARS" "abcdefghijklmnopqrstuvwxyz0123456789_" : He.Fa), (.str "DIGITS" "0123456789" : He.Fa), (.str "BLANKS" " \n\t" : He.Fa), (.str "SYMBOLS" "(){}[],=<>+-*" : He.Fa), (.cls "Machine" : He.Fa), (.noat "Machine" "mode" : He.Fa), (.noat "Machine" "first" : He.Fa), (.noat "Machine" "stack" : He.Fa), (.noat "Machine" "made" : He.Fa), (.noat "Machine" "word" : He.Fa), (.noat "Machine" "place" : He.Fa), (.noat "Machine" "over" : He.Fa), (.noat "Machine" "metric" : He.Fa)]
def hFa6 : List He.Fa := [(.noat "Machine" "matchers" : He.Fa), (.noat "Machine" "label" : He.Fa), (.noat "Machine" "inside" : He.Fa), (.noat "Machine" "found" : He.Fa), (.noat "Machine" "span" : He.Fa), (.noat "Machine" "spans" : He.Fa), (.noat "Machine" "selectors" : He.Fa), (.noat "Machine" "operators" : He.Fa), (.noat "Machine" "many" : He.Fa), (.noat "Machine" "unkind" : He.Fa), (.meth "Machine" "turn" : He.Fa), (.meth "Machine" "finish_operand" : He.Fa), (.meth "Machine" "begin_selector" : He.Fa), (.meth "Machine" "finish_selector" : He.Fa), (.meth "Machine" "finish_over" : He.Fa), (.meth "Machine" "add_matcher" : He.Fa)]
def hFa7 : List He.Fa := [(.meth "Machine" "judge" : He.Fa), (.meth "Machine" "combine" : He.Fa), (.meth "Machine" "close" : He.Fa), (.meth "Machine" "open_aggregate" : He.Fa), (.meth "Machine" "end_named" : He.Fa), (.meth "Machine" "has_open" : He.Fa), (.meth "Machine" "can_end" : He.Fa), (.mkr "Machine" : He.Fa)]
def hFa : List He.Fa := hFa0 ++ (hFa1 ++ (hFa2 ++ (hFa3 ++ (hFa4 ++ (hFa5 ++ (hFa6 ++ (hFa7)))))))
def hd_kind_of_binary : He.DefD := ⟨("kind_of_binary", none), "kind_of_binary", "kind_of_binary", defArgs s_kind_of_binary, defBody s_kind_of_binary, defScope s_kind_of_binary, [], []⟩
def hd_at_operand : He.DefD := ⟨("at_operand", none), "at_operand", "at_operand", defArgs s_at_operand, defBody s_at_operand, defScope s_at_operand, [], []⟩
def hd_at_negative : He.DefD := ⟨("at_negative", none), "at_negative", "at_negative", defArgs s_at_negative, defBody s_at_negative, defScope s_at_negative, [], []⟩
def hd_at_done : He.DefD := ⟨("at_done", none), "at_done", "at_done", defArgs s_at_done, defBody s_at_done, defScope s_at_done, [], []⟩
def hd_at_named : He.DefD := ⟨("at_named", none), "at_named", "at_named", defArgs s_at_named, defBody s_at_named, defScope s_at_named, [], []⟩
def hd_at_over_metric : He.DefD := ⟨("at_over_metric", none), "at_over_metric", "at_over_metric", defArgs s_at_over_metric, defBody s_at_over_metric, defScope s_at_over_metric, [], []⟩
def hd_at_over_named : He.DefD := ⟨("at_over_named", none), "at_over_named", "at_over_named", defArgs s_at_over_named, defBody s_at_over_named, defScope s_at_over_named, [], []⟩
def hd_at_label : He.DefD := ⟨("at_label", none), "at_label", "at_label", defArgs s_at_label, defBody s_at_label, defScope s_at_label, [], []⟩
def hd_at_test : He.DefD := ⟨("at_test", none), "at_test", "at_test", defArgs s_at_test, defBody s_at_test, defScope s_at_test, [], []⟩
def hd_at_not_in : He.DefD := ⟨("at_not_in", none), "at_not_in", "at_not_in", defArgs s_at_not_in, defBody s_at_not_in, defScope s_at_not_in, [], []⟩
def hd_at_value : He.DefD := ⟨("at_value", none), "at_value", "at_value", defArgs s_at_value, defBody s_at_value, defScope s_at_value, [], []⟩
def hd_at_list_open : He.DefD := ⟨("at_list_open", none), "at_list_open", "at_list_open", defArgs s_at_list_open, defBody s_at_list_open, defScope s_at_list_open, [], []⟩
def hd_at_item : He.DefD := ⟨("at_item", none), "at_item", "at_item", defArgs s_at_item, defBody s_at_item, defScope s_at_item, [], []⟩
def hd_at_item_end : He.DefD := ⟨("at_item_end", none), "at_item_end", "at_item_end", defArgs s_at_item_end, defBody s_at_item_end, defScope s_at_item_end, [], []⟩
def hd_at_matched : He.DefD := ⟨("at_matched", none), "at_matched", "at_matched", defArgs s_at_matched, defBody s_at_matched, defScope s_at_matched, [], []⟩
def hd_at_range_open : He.DefD := ⟨("at_range_open", none), "at_range_open", "at_range_open", defArgs s_at_range_open, defBody s_at_range_open, defScope s_at_range_open, [], []⟩
def hd_at_span : He.DefD := ⟨("at_span", none), "at_span", "at_span", defArgs s_at_span, defBody s_at_span, defScope s_at_span, [], []⟩
def hd_at_span_end : He.DefD := ⟨("at_span_end", none), "at_span_end", "at_span_end", defArgs s_at_span_end, defBody s_at_span_end, defScope s_at_span_end, [], []⟩
def hd_at_over_close : He.DefD := ⟨("at_over_close", none), "at_over_close", "at_over_close", defArgs s_at_over_close, defBody s_at_over_close, defScope s_at_over_close, [], []⟩
def hd_at_by_open : He.DefD := ⟨("at_by_open", none), "at_by_open", "at_by_open", defArgs s_at_by_open, defBody s_at_by_open, defScope s_at_by_open, [], []⟩
def hd_at_by_name : He.DefD := ⟨("at_by_name", none), "at_by_name", "at_by_name", defArgs s_at_by_name, defBody s_at_by_name, defScope s_at_by_name, [], []⟩
def hd_at_by_end : He.DefD := ⟨("at_by_end", none), "at_by_end", "at_by_end", defArgs s_at_by_end, defBody s_at_by_end, defScope s_at_by_end, [], []⟩
def hd_at_aggregate_open : He.DefD := ⟨("at_aggregate_open", none), "at_aggregate_open", "at_aggregate_open", defArgs s_at_aggregate_open, defBody s_at_aggregate_open, defScope s_at_aggregate_open, [], []⟩
def hd_take : He.DefD := ⟨("take", none), "take", "take", defArgs s_take, defBody s_take, defScope s_take, [], []⟩
def hd_read_word : He.DefD := ⟨("read_word", none), "read_word", "read_word", defArgs s_read_word, defBody s_read_word, defScope s_read_word, [], []⟩
def hd_read_number : He.DefD := ⟨("read_number", none), "read_number", "read_number", defArgs s_read_number, defBody s_read_number, defScope s_read_number, [], []⟩
def hd_read_string : He.DefD := ⟨("read_string", none), "read_string", "read_string", defArgs s_read_string, defBody s_read_string, defScope s_read_string, [], []⟩
def hd_read_symbol : He.DefD := ⟨("read_symbol", none), "read_symbol", "read_symbol", defArgs s_read_symbol, defBody s_read_symbol, defScope s_read_symbol, [], []⟩
def hd_take_token : He.DefD := ⟨("take_token", none), "take_token", "take_token", defArgs s_take_token, defBody s_take_token, defScope s_take_token, [], []⟩
def hd_scan : He.DefD := ⟨("scan", none), "scan", "scan", defArgs s_scan, defBody s_scan, defScope s_scan, [], []⟩
def hd_machine_of : He.DefD := ⟨("machine_of", none), "machine_of", "machine_of", defArgs s_machine_of, defBody s_machine_of, defScope s_machine_of, [], []⟩
def hd_check_depth : He.DefD := ⟨("check_depth", none), "check_depth", "check_depth", defArgs s_check_depth, defBody s_check_depth, defScope s_check_depth, [], []⟩
def hd_check_limits : He.DefD := ⟨("check_limits", none), "check_limits", "check_limits", defArgs s_check_limits, defBody s_check_limits, defScope s_check_limits, [], []⟩
def hd_parse : He.DefD := ⟨("parse", none), "parse", "parse", defArgs s_parse, defBody s_parse, defScope s_parse, [], []⟩
def hd_show_matcher : He.DefD := ⟨("show_matcher", none), "show_matcher", "show_matcher", defArgs s_show_matcher, defBody s_show_matcher, defScope s_show_matcher, [], []⟩
def hd_show_selector : He.DefD := ⟨("show_selector", none), "show_selector", "show_selector", defArgs s_show_selector, defBody s_show_selector, defScope s_show_selector, [], []⟩
def hd_show_aggregate : He.DefD := ⟨("show_aggregate", none), "show_aggregate", "show_aggregate", defArgs s_show_aggregate, defBody s_show_aggregate, defScope s_show_aggregate, [], []⟩
def hd_show_side : He.DefD := ⟨("show_side", none), "show_side", "show_side", defArgs s_show_side, defBody s_show_side, defScope s_show_side, [], []⟩
def hd_show : He.DefD := ⟨("show", none), "show", "show", defArgs s_show, defBody s_show, defScope s_show, [], []⟩
def hd__law_cell : He.DefD := ⟨("_law_cell", none), "_law_cell", "_law_cell", defArgs s__law_cell, defBody s__law_cell, defScope s__law_cell, [], []⟩
def hd__law_draws : He.DefD := ⟨("_law_draws", none), "_law_draws", "_law_draws", defArgs s__law_draws, defBody s__law_draws, defScope s__law_draws, [], []⟩
def hd__law_name : He.DefD := ⟨("_law_name", none), "_law_name", "_law_name", defArgs s__law_name, defBody s__law_name, defScope s__law_name, [], []⟩
def hd__law_worth : He.DefD := ⟨("_law_worth", none), "_law_worth", "_law_worth", defArgs s__law_worth, defBody s__law_worth, defScope s__law_worth, [], []⟩
def hd__law_names : He.DefD := ⟨("_law_names", none), "_law_names", "_law_names", defArgs s__law_names, defBody s__law_names, defScope s__law_names, [], []⟩
def hd__law_worths : He.DefD := ⟨("_law_worths", none), "_law_worths", "_law_worths", defArgs s__law_worths, defBody s__law_worths, defScope s__law_worths, [], []⟩
def hd__law_number : He.DefD := ⟨("_law_number", none), "_law_number", "_law_number", defArgs s__law_number, defBody s__law_number, defScope s__law_number, [], []⟩
def hd__law_kind : He.DefD := ⟨("_law_kind", none), "_law_kind", "_law_kind", defArgs s__law_kind, defBody s__law_kind, defScope s__law_kind, [], []⟩
def hd__law_leaf : He.DefD := ⟨("_law_leaf", none), "_law_leaf", "_law_leaf", defArgs s__law_leaf, defBody s__law_leaf, defScope s__law_leaf, [], []⟩
def hd__law_sign : He.DefD := ⟨("_law_sign", none), "_law_sign", "_law_sign", defArgs s__law_sign, defBody s__law_sign, defScope s__law_sign, [], []⟩
def hd__law_expression : He.DefD := ⟨("_law_expression", none), "_law_expression", "_law_expression", defArgs s__law_expression, defBody s__law_expression, defScope s__law_expression, [], []⟩
def hd__law_of_script : He.DefD := ⟨("_law_of_script", none), "_law_of_script", "_law_of_script", defArgs s__law_of_script, defBody s__law_of_script, defScope s__law_of_script, [], []⟩
def hd__law_strength : He.DefD := ⟨("_law_strength", none), "_law_strength", "_law_strength", defArgs s__law_strength, defBody s__law_strength, defScope s__law_strength, [], []⟩
def hd__law_matcher : He.DefD := ⟨("_law_matcher", none), "_law_matcher", "_law_matcher", defArgs s__law_matcher, defBody s__law_matcher, defScope s__law_matcher, [], []⟩
def hd__law_selector : He.DefD := ⟨("_law_selector", none), "_law_selector", "_law_selector", defArgs s__law_selector, defBody s__law_selector, defScope s__law_selector, [], []⟩
def hd__law_moved : He.DefD := ⟨("_law_moved", none), "_law_moved", "_law_moved", defArgs s__law_moved, defBody s__law_moved, defScope s__law_moved, [], []⟩
def hd__law_side : He.DefD := ⟨("_law_side", none), "_law_side", "_law_side", defArgs s__law_side, defBody s__law_side, defScope s__law_side, [], []⟩
def hd__law_shown : He.DefD := ⟨("_law_shown", none), "_law_shown", "_law_shown", defArgs s__law_shown, defBody s__law_shown, defScope s__law_shown, [], []⟩
def hd_law : He.DefD := ⟨("law", none), "law", "law", defArgs s_law, defBody s_law, defScope s_law, [], []⟩
def hd_M_turn : He.DefD := ⟨("Machine", some "turn"), "turn", "Machine.turn", defArgs s_M_turn, defBody s_M_turn, defScope s_M_turn, [], []⟩
def hd_M_finish_operand : He.DefD := ⟨("Machine", some "finish_operand"), "finish_operand", "Machine.finish_operand", defArgs s_M_finish_operand, defBody s_M_finish_operand, defScope s_M_finish_operand, [], []⟩
def hd_M_begin_selector : He.DefD := ⟨("Machine", some "begin_selector"), "begin_selector", "Machine.begin_selector", defArgs s_M_begin_selector, defBody s_M_begin_selector, defScope s_M_begin_selector, [], []⟩
def hd_M_finish_selector : He.DefD := ⟨("Machine", some "finish_selector"), "finish_selector", "Machine.finish_selector", defArgs s_M_finish_selector, defBody s_M_finish_selector, defScope s_M_finish_selector, [], []⟩
def hd_M_finish_over : He.DefD := ⟨("Machine", some "finish_over"), "finish_over", "Machine.finish_over", defArgs s_M_finish_over, defBody s_M_finish_over, defScope s_M_finish_over, [], []⟩
def hd_M_add_matcher : He.DefD := ⟨("Machine", some "add_matcher"), "add_matcher", "Machine.add_matcher", defArgs s_M_add_matcher, defBody s_M_add_matcher, defScope s_M_add_matcher, [], []⟩
def hd_M_judge : He.DefD := ⟨("Machine", some "judge"), "judge", "Machine.judge", defArgs s_M_judge, defBody s_M_judge, defScope s_M_judge, [], []⟩
def hd_M_combine : He.DefD := ⟨("Machine", some "combine"), "combine", "Machine.combine", defArgs s_M_combine, defBody s_M_combine, defScope s_M_combine, [], []⟩
def hd_M_close : He.DefD := ⟨("Machine", some "close"), "close", "Machine.close", defArgs s_M_close, defBody s_M_close, defScope s_M_close, [], []⟩
def hd_M_open_aggregate : He.DefD := ⟨("Machine", some "open_aggregate"), "open_aggregate", "Machine.open_aggregate", defArgs s_M_open_aggregate, defBody s_M_open_aggregate, defScope s_M_open_aggregate, [], []⟩
def hd_M_end_named : He.DefD := ⟨("Machine", some "end_named"), "end_named", "Machine.end_named", defArgs s_M_end_named, defBody s_M_end_named, defScope s_M_end_named, [], []⟩
def hd_M_has_open : He.DefD := ⟨("Machine", some "has_open"), "has_open", "Machine.has_open", defArgs s_M_has_open, defBody s_M_has_open, defScope s_M_has_open, [], []⟩
def hd_M_can_end : He.DefD := ⟨("Machine", some "can_end"), "can_end", "Machine.can_end", defArgs s_M_can_end, defBody s_M_can_end, defScope s_M_can_end, [], []⟩
def hd_M___init__ : He.DefD := ⟨("Machine", some "__init__"), "__init__", "Machine.__init__", defArgs s_M___init__, defBody s_M___init__, defScope s_M___init__, [], []⟩
def hFn0 : List He.DefD := [hd_kind_of_binary, hd_at_operand, hd_at_negative, hd_at_done, hd_at_named, hd_at_over_metric, hd_at_over_named, hd_at_label, hd_at_test, hd_at_not_in, hd_at_value, hd_at_list_open, hd_at_item, hd_at_item_end, hd_at_matched, hd_at_range_open]
def hFn1 : List He.DefD := [hd_at_span, hd_at_span_end, hd_at_over_close, hd_at_by_open, hd_at_by_name, hd_at_by_end, hd_at_aggregate_open, hd_take, hd_read_word, hd_read_number, hd_read_string, hd_read_symbol, hd_take_token, hd_scan, hd_machine_of, hd_check_depth]
def hFn2 : List He.DefD := [hd_check_limits, hd_parse, hd_show_matcher, hd_show_selector, hd_show_aggregate, hd_show_side, hd_show, hd__law_cell, hd__law_draws, hd__law_name, hd__law_worth, hd__law_names, hd__law_worths, hd__law_number, hd__law_kind, hd__law_leaf]
def hFn3 : List He.DefD := [hd__law_sign, hd__law_expression, hd__law_of_script, hd__law_strength, hd__law_matcher, hd__law_selector, hd__law_moved, hd__law_side, hd__law_shown, hd_law, hd_M_turn, hd_M_finish_operand, hd_M_begin_selector, hd_M_finish_selector, hd_M_finish_over, hd_M_add_matcher]
def hFn4 : List He.DefD := [hd_M_judge, hd_M_combine, hd_M_close, hd_M_open_aggregate, hd_M_end_named, hd_M_has_open, hd_M_can_end, hd_M___init__]
def hFn : List He.DefD := hFn0 ++ (hFn1 ++ (hFn2 ++ (hFn3 ++ (hFn4))))
def hTabs : List He.Tab := [(fun K => He.ga K "STRENGTHS", strengthsL.map fun q => q.1), (fun K => He.ga K "ACTIONS", actionsL.map fun q => q.1)]
def hEx (K : PySem.W.Frag) : Bool := He.tupB K "ARITHMETIC" [.str "+", .str "-", .str "*"] && (He.tupB K "JOINS" [.str "or", .str "and", .str "unless"] && (He.tupB K "OVER_WORDS" [.str "sum_over", .str "min_over", .str "max_over", .str "count_over", .str "last_over", .str "increase"] && (He.tupB K "AGGREGATE_WORDS" [.str "sum", .str "min", .str "max", .str "count"] && (He.tupB K "JOIN_WORDS" [.str "or", .str "and", .str "unless"] && (He.tupB K "PAIRS" [.str "!=", .str "==", .str "<=", .str ">="] && (He.valsB K (He.ga K "STRENGTHS") (strengthsL.map fun q => (q.1, He.Dv.int q.2)) && (He.valsB K (He.ga K "ACTIONS") (actionsL.map fun q => (q.1, He.Dv.glo q.2)))))))))
def hNames0 : List PySem.Str := ["WatchError", "BadExpression", "ARITHMETIC", "JOINS", "kind_of_binary", "STRENGTHS", "OVER_WORDS", "AGGREGATE_WORDS", "JOIN_WORDS", "MOST", "Machine", "at_operand", "at_negative", "at_done", "at_named", "at_over_metric"]
def hNames1 : List PySem.Str := ["at_over_named", "at_label", "at_test", "at_not_in", "at_value", "at_list_open", "at_item", "at_item_end", "at_matched", "at_range_open", "at_span", "at_span_end", "at_over_close", "at_by_open", "at_by_name", "at_by_end"]
def hNames2 : List PySem.Str := ["at_aggregate_open", "ACTIONS", "take", "LETTERS", "WORD_CHARS", "DIGITS", "BLANKS", "SYMBOLS", "PAIRS", "MOST_CHARS", "MOST_WORD", "NUMBER_BOUND", "read_word", "read_number", "read_string", "read_symbol"]
def hNames3 : List PySem.Str := ["take_token", "scan", "MOST_OPEN", "MOST_SELECTORS", "MOST_OPERATORS", "LONGEST", "machine_of", "check_depth", "check_limits", "parse", "show_matcher", "show_selector", "show_aggregate", "show_side", "show", "_law_cell"]
def hNames4 : List PySem.Str := ["_law_draws", "_law_name", "_law_worth", "_law_names", "_law_worths", "_law_number", "_law_kind", "_law_leaf", "_law_sign", "_law_expression", "_law_of_script", "_law_strength", "_law_matcher", "_law_selector", "_law_moved", "_law_side"]
def hNames5 : List PySem.Str := ["_law_shown"]
def hNames : List PySem.Str := hNames0 ++ (hNames1 ++ (hNames2 ++ (hNames3 ++ (hNames4 ++ (hNames5)))))
abbrev hR : PySem.W.OpenRow := PySem.W.OpenLaw.row PySem.Challenge.rw_watchfloor_k89_language_whole_shown_is_p
abbrev hQ : Program := PySem.W.view hR.prog [89]
/-- what the names reach: the names' objects, then theirs, each list once -/
def hRefs (g : Addr → Option Obj) (as : List Addr) : List Addr := as.flatMap fun a => match g a with
  | some o => He.refsD o
  | none => []
def hFront (g : Addr → Option Obj) : Nat → List Addr → List Addr
  | 0, as => as
  | n + 1, as => as ++ hFront g n (hRefs g as)
def hObG (g : Addr → Option Obj) : He.AlX := (He.obsT hFa hFn hTabs (He.frG g (hFront g 5 [mainGlobals])), hEx (He.frG g (hFront g 5 [mainGlobals])))
def hK : PySem.W.Hook where
  α := He.AlX
  obs := fun s => hObG s.heap.get?
  val := fun w => He.valX hFn hTabs w
  says := fun w h => ∃ K : PySem.W.Frag, K.In h ∧ He.SaysX hFa hFn hTabs [] hEx w h K
  of := fun _ _ e => ⟨_, He.frG_in, ⟨congrArg (fun z : He.AlX => z.1) e, congrArg (fun z : He.AlX => z.2) e, (fun p hp => by cases hp), (fun p hp => by cases hp), (fun p hp => by cases hp)⟩⟩
  keeps := fun _ _ _ ⟨K, hK, c⟩ k => ⟨K, PySem.W.Frag.In.keeps hK k, ⟨c.t, c.more, c.hd, c.out, fun p hp => k _ _ (c.empty p hp)⟩⟩
def hOb (s : PySem.W.SharedT) : He.AlX := hObG (HandSHeadRun.getT s)
theorem hOb_eq (s : PySem.W.SharedT) : hOb s = hK.obs s.abs := by
  have e : HandSHeadRun.getT s = s.abs.heap.get? := funext (HandSHeadRun.getT_eq s)
  show hObG (HandSHeadRun.getT s) = hObG s.abs.heap.get?
  rw [e]
end Wf


set_option Elab.async false
set_option linter.all false
set_option maxRecDepth 100000
set_option maxHeartbeats 0
namespace Wf
open PySem PySem.Spec PyProof.Rows L2
theorem hRunF (w : World) : HandSHeadRun.RunEq hR hQ hK hOb 6000 hNames (w.withFollow "special-get-raises" false) := by
  intro os
  kernel_rfl
theorem hRunT (w : World) : HandSHeadRun.RunEq hR hQ hK hOb 6000 hNames (w.withFollow "special-get-raises" true) := by
  intro os
  kernel_rfl
theorem hRun (w : World) : HandSHeadRun.RunEq hR hQ hK hOb 6000 hNames w := PySem.W.byRow2 (P := HandSHeadRun.RunEq hR hQ hK hOb 6000 hNames) "special-get-raises" hRunF hRunT w
end Wf


set_option Elab.async false
set_option linter.all false
set_option maxRecDepth 100000
set_option maxHeartbeats 0
namespace Wf
open PySem PySem.W PySem.Calls PyProof.Rows
theorem hHead (call : WalkO hQ hNames (XL hQ []) hK.says hR.toRowW (HandSHeadRun.topDef hR.prog 89) [] fun f vs => PySem.call f vs) : PySem.Challenge.rw_watchfloor_k89_language_whole_shown_is_p.Holds := by
  w_on; o_law
  refine HandSHeadRun.head_any (r := hR) (q := hQ) (H := hK) (ob := hOb) (M := 6000) (loose := hNames) (d := HandSHeadRun.topDef hR.prog 89) (kwd := []) hOb_eq
    (by kernel_rfl) (fun s => by kernel_rfl) hRun (by kernel_rfl) (by kernel_rfl) (by kernel_rfl) (by rfl) (by first | assumption | decide +kernel) (by decide +kernel) ⟨rfl, rfl, rfl, rfl, rfl, by decide +kernel⟩ ?hw call
  case hw => w_witness2
theorem hTopD : (HandSHeadRun.topDef hR.prog 89).params.defaults = [] := by kernel_rfl
theorem hTopN : (HandSHeadRun.topDef hR.prog 89).name = ("law" : PySem.Str) := by kernel_rfl
end Wf


set_option Elab.async false
set_option linter.all false
set_option maxRecDepth 100000
set_option maxHeartbeats 4000000
namespace Wf
open PySem PySem.Spec PyProof.Rows L2
open C8 (pe_gc)
structure Txt (w : World) (K : PySem.W.Frag) (mg : Str → Option Value) : Prop where
  d_kind_of_binary : ∃ fd, FunD K "kind_of_binary" "kind_of_binary" (defArgs s_kind_of_binary) (defBody s_kind_of_binary) (defScope s_kind_of_binary) [] [] (He.ga K "kind_of_binary") fd
  g_kind_of_binary : mg "kind_of_binary" = some (.ref (He.ga K "kind_of_binary"))
  d_at_operand : ∃ fd, FunD K "at_operand" "at_operand" (defArgs s_at_operand) (defBody s_at_operand) (defScope s_at_operand) [] [] (He.ga K "at_operand") fd
  g_at_operand : mg "at_operand" = some (.ref (He.ga K "at_operand"))
  d_at_negative : ∃ fd, FunD K "at_negative" "at_negative" (defArgs s_at_negative) (defBody s_at_negative) (defScope s_at_negative) [] [] (He.ga K "at_negative") fd
  g_at_negative : mg "at_negative" = some (.ref (He.ga K "at_negative"))
  d_at_done : ∃ fd, FunD K "at_done" "at_done" (defArgs s_at_done) (defBody s_at_done) (defScope s_at_done) [] [] (He.ga K "at_done") fd
  g_at_done : mg "at_done" = some (.ref (He.ga K "at_done"))
  d_at_named : ∃ fd, FunD K "at_named" "at_named" (defArgs s_at_named) (defBody s_at_named) (defScope s_at_named) [] [] (He.ga K "at_named") fd
  g_at_named : mg "at_named" = some (.ref (He.ga K "at_named"))
  d_at_over_metric : ∃ fd, FunD K "at_over_metric" "at_over_metric" (defArgs s_at_over_metric) (defBody s_at_over_metric) (defScope s_at_over_metric) [] [] (He.ga K "at_over_metric") fd
  g_at_over_metric : mg "at_over_metric" = some (.ref (He.ga K "at_over_metric"))
  d_at_over_named : ∃ fd, FunD K "at_over_named" "at_over_named" (defArgs s_at_over_named) (defBody s_at_over_named) (defScope s_at_over_named) [] [] (He.ga K "at_over_named") fd
  g_at_over_named : mg "at_over_named" = some (.ref (He.ga K "at_over_named"))
  d_at_label : ∃ fd, FunD K "at_label" "at_label" (defArgs s_at_label) (defBody s_at_label) (defScope s_at_label) [] [] (He.ga K "at_label") fd
  g_at_label : mg "at_label" = some (.ref (He.ga K "at_label"))
  d_at_test : ∃ fd, FunD K "at_test" "at_test" (defArgs s_at_test) (defBody s_at_test) (defScope s_at_test) [] [] (He.ga K "at_test") fd
  g_at_test : mg "at_test" = some (.ref (He.ga K "at_test"))
  d_at_not_in : ∃ fd, FunD K "at_not_in" "at_not_in" (defArgs s_at_not_in) (defBody s_at_not_in) (defScope s_at_not_in) [] [] (He.ga K "at_not_in") fd
  g_at_not_in : mg "at_not_in" = some (.ref (He.ga K "at_not_in"))
  d_at_value : ∃ fd, FunD K "at_value" "at_value" (defArgs s_at_value) (defBody s_at_value) (defScope s_at_value) [] [] (He.ga K "at_value") fd
  g_at_value : mg "at_value" = some (.ref (He.ga K "at_value"))
  d_at_list_open : ∃ fd, FunD K "at_list_open" "at_list_open" (defArgs s_at_list_open) (defBody s_at_list_open) (defScope s_at_list_open) [] [] (He.ga K "at_list_open") fd
  g_at_list_open : mg "at_list_open" = some (.ref (He.ga K "at_list_open"))
  d_at_item : ∃ fd, FunD K "at_item" "at_item" (defArgs s_at_item) (defBody s_at_item) (defScope s_at_item) [] [] (He.ga K "at_item") fd
  g_at_item : mg "at_item" = some (.ref (He.ga K "at_item"))
  d_at_item_end : ∃ fd, FunD K "at_item_end" "at_item_end" (defArgs s_at_item_end) (defBody s_at_item_end) (defScope s_at_item_end) [] [] (He.ga K "at_item_end") fd
  g_at_item_end : mg "at_item_end" = some (.ref (He.ga K "at_item_end"))
  d_at_matched : ∃ fd, FunD K "at_matched" "at_matched" (defArgs s_at_matched) (defBody s_at_matched) (defScope s_at_matched) [] [] (He.ga K "at_matched") fd
  g_at_matched : mg "at_matched" = some (.ref (He.ga K "at_matched"))
  d_at_range_open : ∃ fd, FunD K "at_range_open" "at_range_open" (defArgs s_at_range_open) (defBody s_at_range_open) (defScope s_at_range_open) [] [] (He.ga K "at_range_open") fd
  g_at_range_open : mg "at_range_open" = some (.ref (He.ga K "at_range_open"))
  d_at_span : ∃ fd, FunD K "at_span" "at_span" (defArgs s_at_span) (defBody s_at_span) (defScope s_at_span) [] [] (He.ga K "at_span") fd
  g_at_span : mg "at_span" = some (.ref (He.ga K "at_span"))
  d_at_span_end : ∃ fd, FunD K "at_span_end" "at_span_end" (defArgs s_at_span_end) (defBody s_at_span_end) (defScope s_at_span_end) [] [] (He.ga K "at_span_end") fd
  g_at_span_end : mg "at_span_end" = some (.ref (He.ga K "at_span_end"))
  d_at_over_close : ∃ fd, FunD K "at_over_close" "at_over_close" (defArgs s_at_over_close) (defBody s_at_over_close) (defScope s_at_over_close) [] [] (He.ga K "at_over_close") fd
  g_at_over_close : mg "at_over_close" = some (.ref (He.ga K "at_over_close"))
  d_at_by_open : ∃ fd, FunD K "at_by_open" "at_by_open" (defArgs s_at_by_open) (defBody s_at_by_open) (defScope s_at_by_open) [] [] (He.ga K "at_by_open") fd
  g_at_by_open : mg "at_by_open" = some (.ref (He.ga K "at_by_open"))
  d_at_by_name : ∃ fd, FunD K "at_by_name" "at_by_name" (defArgs s_at_by_name) (defBody s_at_by_name) (defScope s_at_by_name) [] [] (He.ga K "at_by_name") fd
  g_at_by_name : mg "at_by_name" = some (.ref (He.ga K "at_by_name"))
  d_at_by_end : ∃ fd, FunD K "at_by_end" "at_by_end" (defArgs s_at_by_end) (defBody s_at_by_end) (defScope s_at_by_end) [] [] (He.ga K "at_by_end") fd
  g_at_by_end : mg "at_by_end" = some (.ref (He.ga K "at_by_end"))
  d_at_aggregate_open : ∃ fd, FunD K "at_aggregate_open" "at_aggregate_open" (defArgs s_at_aggregate_open) (defBody s_at_aggregate_open) (defScope s_at_aggregate_open) [] [] (He.ga K "at_aggregate_open") fd
  g_at_aggregate_open : mg "at_aggregate_open" = some (.ref (He.ga K "at_aggregate_open"))
  d_take : ∃ fd, FunD K "take" "take" (defArgs s_take) (defBody s_take) (defScope s_take) [] [] (He.ga K "take") fd
  g_take : mg "take" = some (.ref (He.ga K "take"))
  d_read_word : ∃ fd, FunD K "read_word" "read_word" (defArgs s_read_word) (defBody s_read_word) (defScope s_read_word) [] [] (He.ga K "read_word") fd
  g_read_word : mg "read_word" = some (.ref (He.ga K "read_word"))
  d_read_number : ∃ fd, FunD K "read_number" "read_number" (defArgs s_read_number) (defBody s_read_number) (defScope s_read_number) [] [] (He.ga K "read_number") fd
  g_read_number : mg "read_number" = some (.ref (He.ga K "read_number"))
  d_read_string : ∃ fd, FunD K "read_string" "read_string" (defArgs s_read_string) (defBody s_read_string) (defScope s_read_string) [] [] (He.ga K "read_string") fd
  g_read_string : mg "read_string" = some (.ref (He.ga K "read_string"))
  d_read_symbol : ∃ fd, FunD K "read_symbol" "read_symbol" (defArgs s_read_symbol) (defBody s_read_symbol) (defScope s_read_symbol) [] [] (He.ga K "read_symbol") fd
  g_read_symbol : mg "read_symbol" = some (.ref (He.ga K "read_symbol"))
  d_take_token : ∃ fd, FunD K "take_token" "take_token" (defArgs s_take_token) (defBody s_take_token) (defScope s_take_token) [] [] (He.ga K "take_token") fd
  g_take_token : mg "take_token" = some (.ref (He.ga K "take_token"))
  d_scan : ∃ fd, FunD K "scan" "scan" (defArgs s_scan) (defBody s_scan) (defScope s_scan) [] [] (He.ga K "scan") fd
  g_scan : mg "scan" = some (.ref (He.ga K "scan"))
  d_machine_of : ∃ fd, FunD K "machine_of" "machine_of" (defArgs s_machine_of) (defBody s_machine_of) (defScope s_machine_of) [] [] (He.ga K "machine_of") fd
  g_machine_of : mg "machine_of" = some (.ref (He.ga K "machine_of"))
  d_check_depth : ∃ fd, FunD K "check_depth" "check_depth" (defArgs s_check_depth) (defBody s_check_depth) (defScope s_check_depth) [] [] (He.ga K "check_depth") fd
  g_check_depth : mg "check_depth" = some (.ref (He.ga K "check_depth"))
  d_check_limits : ∃ fd, FunD K "check_limits" "check_limits" (defArgs s_check_limits) (defBody s_check_limits) (defScope s_check_limits) [] [] (He.ga K "check_limits") fd
  g_check_limits : mg "check_limits" = some (.ref (He.ga K "check_limits"))
  d_parse : ∃ fd, FunD K "parse" "parse" (defArgs s_parse) (defBody s_parse) (defScope s_parse) [] [] (He.ga K "parse") fd
  g_parse : mg "parse" = some (.ref (He.ga K "parse"))
  d_show_matcher : ∃ fd, FunD K "show_matcher" "show_matcher" (defArgs s_show_matcher) (defBody s_show_matcher) (defScope s_show_matcher) [] [] (He.ga K "show_matcher") fd
  g_show_matcher : mg "show_matcher" = some (.ref (He.ga K "show_matcher"))
  d_show_selector : ∃ fd, FunD K "show_selector" "show_selector" (defArgs s_show_selector) (defBody s_show_selector) (defScope s_show_selector) [] [] (He.ga K "show_selector") fd
  g_show_selector : mg "show_selector" = some (.ref (He.ga K "show_selector"))
  d_show_aggregate : ∃ fd, FunD K "show_aggregate" "show_aggregate" (defArgs s_show_aggregate) (defBody s_show_aggregate) (defScope s_show_aggregate) [] [] (He.ga K "show_aggregate") fd
  g_show_aggregate : mg "show_aggregate" = some (.ref (He.ga K "show_aggregate"))
  d_show_side : ∃ fd, FunD K "show_side" "show_side" (defArgs s_show_side) (defBody s_show_side) (defScope s_show_side) [] [] (He.ga K "show_side") fd
  g_show_side : mg "show_side" = some (.ref (He.ga K "show_side"))
  d_show : ∃ fd, FunD K "show" "show" (defArgs s_show) (defBody s_show) (defScope s_show) [] [] (He.ga K "show") fd
  g_show : mg "show" = some (.ref (He.ga K "show"))
  d__law_cell : ∃ fd, FunD K "_law_cell" "_law_cell" (defArgs s__law_cell) (defBody s__law_cell) (defScope s__law_cell) [] [] (He.ga K "_law_cell") fd
  g__law_cell : mg "_law_cell" = some (.ref (He.ga K "_law_cell"))
  d__law_draws : ∃ fd, FunD K "_law_draws" "_law_draws" (defArgs s__law_draws) (defBody s__law_draws) (defScope s__law_draws) [] [] (He.ga K "_law_draws") fd
  g__law_draws : mg "_law_draws" = some (.ref (He.ga K "_law_draws"))
  d__law_name : ∃ fd, FunD K "_law_name" "_law_name" (defArgs s__law_name) (defBody s__law_name) (defScope s__law_name) [] [] (He.ga K "_law_name") fd
  g__law_name : mg "_law_name" = some (.ref (He.ga K "_law_name"))
  d__law_worth : ∃ fd, FunD K "_law_worth" "_law_worth" (defArgs s__law_worth) (defBody s__law_worth) (defScope s__law_worth) [] [] (He.ga K "_law_worth") fd
  g__law_worth : mg "_law_worth" = some (.ref (He.ga K "_law_worth"))
  d__law_names : ∃ fd, FunD K "_law_names" "_law_names" (defArgs s__law_names) (defBody s__law_names) (defScope s__law_names) [] [] (He.ga K "_law_names") fd
  g__law_names : mg "_law_names" = some (.ref (He.ga K "_law_names"))
  d__law_worths : ∃ fd, FunD K "_law_worths" "_law_worths" (defArgs s__law_worths) (defBody s__law_worths) (defScope s__law_worths) [] [] (He.ga K "_law_worths") fd
  g__law_worths : mg "_law_worths" = some (.ref (He.ga K "_law_worths"))
  d__law_number : ∃ fd, FunD K "_law_number" "_law_number" (defArgs s__law_number) (defBody s__law_number) (defScope s__law_number) [] [] (He.ga K "_law_number") fd
  g__law_number : mg "_law_number" = some (.ref (He.ga K "_law_number"))
  d__law_kind : ∃ fd, FunD K "_law_kind" "_law_kind" (defArgs s__law_kind) (defBody s__law_kind) (defScope s__law_kind) [] [] (He.ga K "_law_kind") fd
  g__law_kind : mg "_law_kind" = some (.ref (He.ga K "_law_kind"))
  d__law_leaf : ∃ fd, FunD K "_law_leaf" "_law_leaf" (defArgs s__law_leaf) (defBody s__law_leaf) (defScope s__law_leaf) [] [] (He.ga K "_law_leaf") fd
  g__law_leaf : mg "_law_leaf" = some (.ref (He.ga K "_law_leaf"))
  d__law_sign : ∃ fd, FunD K "_law_sign" "_law_sign" (defArgs s__law_sign) (defBody s__law_sign) (defScope s__law_sign) [] [] (He.ga K "_law_sign") fd
  g__law_sign : mg "_law_sign" = some (.ref (He.ga K "_law_sign"))
  d__law_expression : ∃ fd, FunD K "_law_expression" "_law_expression" (defArgs s__law_expression) (defBody s__law_expression) (defScope s__law_expression) [] [] (He.ga K "_law_expression") fd
  g__law_expression : mg "_law_expression" = some (.ref (He.ga K "_law_expression"))
  d__law_of_script : ∃ fd, FunD K "_law_of_script" "_law_of_script" (defArgs s__law_of_script) (defBody s__law_of_script) (defScope s__law_of_script) [] [] (He.ga K "_law_of_script") fd
  g__law_of_script : mg "_law_of_script" = some (.ref (He.ga K "_law_of_script"))
  d__law_strength : ∃ fd, FunD K "_law_strength" "_law_strength" (defArgs s__law_strength) (defBody s__law_strength) (defScope s__law_strength) [] [] (He.ga K "_law_strength") fd
  g__law_strength : mg "_law_strength" = some (.ref (He.ga K "_law_strength"))
  d__law_matcher : ∃ fd, FunD K "_law_matcher" "_law_matcher" (defArgs s__law_matcher) (defBody s__law_matcher) (defScope s__law_matcher) [] [] (He.ga K "_law_matcher") fd
  g__law_matcher : mg "_law_matcher" = some (.ref (He.ga K "_law_matcher"))
  d__law_selector : ∃ fd, FunD K "_law_selector" "_law_selector" (defArgs s__law_selector) (defBody s__law_selector) (defScope s__law_selector) [] [] (He.ga K "_law_selector") fd
  g__law_selector : mg "_law_selector" = some (.ref (He.ga K "_law_selector"))
  d__law_moved : ∃ fd, FunD K "_law_moved" "_law_moved" (defArgs s__law_moved) (defBody s__law_moved) (defScope s__law_moved) [] [] (He.ga K "_law_moved") fd
  g__law_moved : mg "_law_moved" = some (.ref (He.ga K "_law_moved"))
  d__law_side : ∃ fd, FunD K "_law_side" "_law_side" (defArgs s__law_side) (defBody s__law_side) (defScope s__law_side) [] [] (He.ga K "_law_side") fd
  g__law_side : mg "_law_side" = some (.ref (He.ga K "_law_side"))
  d__law_shown : ∃ fd, FunD K "_law_shown" "_law_shown" (defArgs s__law_shown) (defBody s__law_shown) (defScope s__law_shown) [] [] (He.ga K "_law_shown") fd
  g__law_shown : mg "_law_shown" = some (.ref (He.ga K "_law_shown"))
  d_law : ∃ fd, FunD K "law" "law" (defArgs s_law) (defBody s_law) (defScope s_law) [] [] (He.ga K "law") fd
  g_law : mg "law" = some (.ref (He.ga K "law"))
  d_M_turn : ∃ fd, FunD K "turn" "Machine.turn" (defArgs s_M_turn) (defBody s_M_turn) (defScope s_M_turn) [] [] (He.ma K (He.ga K "Machine") "turn") fd
  m_turn : Meth K (He.ga K "Machine") "turn" (He.ma K (He.ga K "Machine") "turn")
  d_M_finish_operand : ∃ fd, FunD K "finish_operand" "Machine.finish_operand" (defArgs s_M_finish_operand) (defBody s_M_finish_operand) (defScope s_M_finish_operand) [] [] (He.ma K (He.ga K "Machine") "finish_operand") fd
  m_finish_operand : Meth K (He.ga K "Machine") "finish_operand" (He.ma K (He.ga K "Machine") "finish_operand")
  d_M_begin_selector : ∃ fd, FunD K "begin_selector" "Machine.begin_selector" (defArgs s_M_begin_selector) (defBody s_M_begin_selector) (defScope s_M_begin_selector) [] [] (He.ma K (He.ga K "Machine") "begin_selector") fd
  m_begin_selector : Meth K (He.ga K "Machine") "begin_selector" (He.ma K (He.ga K "Machine") "begin_selector")
  d_M_finish_selector : ∃ fd, FunD K "finish_selector" "Machine.finish_selector" (defArgs s_M_finish_selector) (defBody s_M_finish_selector) (defScope s_M_finish_selector) [] [] (He.ma K (He.ga K "Machine") "finish_selector") fd
  m_finish_selector : Meth K (He.ga K "Machine") "finish_selector" (He.ma K (He.ga K "Machine") "finish_selector")
  d_M_finish_over : ∃ fd, FunD K "finish_over" "Machine.finish_over" (defArgs s_M_finish_over) (defBody s_M_finish_over) (defScope s_M_finish_over) [] [] (He.ma K (He.ga K "Machine") "finish_over") fd
  m_finish_over : Meth K (He.ga K "Machine") "finish_over" (He.ma K (He.ga K "Machine") "finish_over")
  d_M_add_matcher : ∃ fd, FunD K "add_matcher" "Machine.add_matcher" (defArgs s_M_add_matcher) (defBody s_M_add_matcher) (defScope s_M_add_matcher) [] [] (He.ma K (He.ga K "Machine") "add_matcher") fd
  m_add_matcher : Meth K (He.ga K "Machine") "add_matcher" (He.ma K (He.ga K "Machine") "add_matcher")
  d_M_judge : ∃ fd, FunD K "judge" "Machine.judge" (defArgs s_M_judge) (defBody s_M_judge) (defScope s_M_judge) [] [] (He.ma K (He.ga K "Machine") "judge") fd
  m_judge : Meth K (He.ga K "Machine") "judge" (He.ma K (He.ga K "Machine") "judge")
  d_M_combine : ∃ fd, FunD K "combine" "Machine.combine" (defArgs s_M_combine) (defBody s_M_combine) (defScope s_M_combine) [] [] (He.ma K (He.ga K "Machine") "combine") fd
  m_combine : Meth K (He.ga K "Machine") "combine" (He.ma K (He.ga K "Machine") "combine")
  d_M_close : ∃ fd, FunD K "close" "Machine.close" (defArgs s_M_close) (defBody s_M_close) (defScope s_M_close) [] [] (He.ma K (He.ga K "Machine") "close") fd
  m_close : Meth K (He.ga K "Machine") "close" (He.ma K (He.ga K "Machine") "close")
  d_M_open_aggregate : ∃ fd, FunD K "open_aggregate" "Machine.open_aggregate" (defArgs s_M_open_aggregate) (defBody s_M_open_aggregate) (defScope s_M_open_aggregate) [] [] (He.ma K (He.ga K "Machine") "open_aggregate") fd
  m_open_aggregate : Meth K (He.ga K "Machine") "open_aggregate" (He.ma K (He.ga K "Machine") "open_aggregate")
  d_M_end_named : ∃ fd, FunD K "end_named" "Machine.end_named" (defArgs s_M_end_named) (defBody s_M_end_named) (defScope s_M_end_named) [] [] (He.ma K (He.ga K "Machine") "end_named") fd
  m_end_named : Meth K (He.ga K "Machine") "end_named" (He.ma K (He.ga K "Machine") "end_named")
  d_M_has_open : ∃ fd, FunD K "has_open" "Machine.has_open" (defArgs s_M_has_open) (defBody s_M_has_open) (defScope s_M_has_open) [] [] (He.ma K (He.ga K "Machine") "has_open") fd
  m_has_open : Meth K (He.ga K "Machine") "has_open" (He.ma K (He.ga K "Machine") "has_open")
  d_M_can_end : ∃ fd, FunD K "can_end" "Machine.can_end" (defArgs s_M_can_end) (defBody s_M_can_end) (defScope s_M_can_end) [] [] (He.ma K (He.ga K "Machine") "can_end") fd
  m_can_end : Meth K (He.ga K "Machine") "can_end" (He.ma K (He.ga K "Machine") "can_end")
  d_M___init__ : ∃ fd, FunD K "__init__" "Machine.__init__" (defArgs s_M___init__) (defBody s_M___init__) (defScope s_M___init__) [] [] (He.ma K (He.ga K "Machine") "__init__") fd
  cl : Cls K (He.ga K "Machine")
  n_mode : NoAttr K (He.ga K "Machine") "mode"
  n_first : NoAttr K (He.ga K "Machine") "first"
  n_stack : NoAttr K (He.ga K "Machine") "stack"
  n_made : NoAttr K (He.ga K "Machine") "made"
  n_word : NoAttr K (He.ga K "Machine") "word"
  n_place : NoAttr K (He.ga K "Machine") "place"
  n_over : NoAttr K (He.ga K "Machine") "over"
  n_metric : NoAttr K (He.ga K "Machine") "metric"
  n_matchers : NoAttr K (He.ga K "Machine") "matchers"
  n_label : NoAttr K (He.ga K "Machine") "label"
  n_inside : NoAttr K (He.ga K "Machine") "inside"
  n_found : NoAttr K (He.ga K "Machine") "found"
  n_span : NoAttr K (He.ga K "Machine") "span"
  n_spans : NoAttr K (He.ga K "Machine") "spans"
  n_selectors : NoAttr K (He.ga K "Machine") "selectors"
  n_operators : NoAttr K (He.ga K "Machine") "operators"
  n_many : NoAttr K (He.ga K "Machine") "many"
  n_unkind : NoAttr K (He.ga K "Machine") "unkind"
  mk_ : Mk K (He.ga K "Machine") (He.ma K (He.ga K "Machine") "__init__")
  g_Machine : mg "Machine" = some (.ref (He.ga K "Machine"))
  c_MOST : ∃ u, mg "MOST" = some u ∧ RelV (.int 6) u
  c_MOST_CHARS : ∃ u, mg "MOST_CHARS" = some u ∧ RelV (.int 300) u
  c_MOST_WORD : ∃ u, mg "MOST_WORD" = some u ∧ RelV (.int 20) u
  c_NUMBER_BOUND : ∃ u, mg "NUMBER_BOUND" = some u ∧ RelV (.int 1000000000000000) u
  c_MOST_OPEN : ∃ u, mg "MOST_OPEN" = some u ∧ RelV (.int 20) u
  c_MOST_SELECTORS : ∃ u, mg "MOST_SELECTORS" = some u ∧ RelV (.int 6) u
  c_MOST_OPERATORS : ∃ u, mg "MOST_OPERATORS" = some u ∧ RelV (.int 8) u
  c_LONGEST : ∃ u, mg "LONGEST" = some u ∧ RelV (.int 1000) u
  c_LETTERS : ∃ u, mg "LETTERS" = some u ∧ RelV (.str "abcdefghijklmnopqrstuvwxyz") u
  c_WORD_CHARS : ∃ u, mg "WORD_CHARS" = some u ∧ RelV (.str "abcdefghijklmnopqrstuvwxyz0123456789_") u
  c_DIGITS : ∃ u, mg "DIGITS" = some u ∧ RelV (.str "0123456789") u
  c_BLANKS : ∃ u, mg "BLANKS" = some u ∧ RelV (.str " \n\t") u
  c_SYMBOLS : ∃ u, mg "SYMBOLS" = some u ∧ RelV (.str "(){}[],=<>+-*") u
  t_ARITHMETIC : ∀ H, SqT K H (He.ga K "ARITHMETIC") [.str "+", .str "-", .str "*"]
  g_ARITHMETIC : mg "ARITHMETIC" = some (.ref (He.ga K "ARITHMETIC"))
  t_JOINS : ∀ H, SqT K H (He.ga K "JOINS") [.str "or", .str "and", .str "unless"]
  g_JOINS : mg "JOINS" = some (.ref (He.ga K "JOINS"))
  t_OVER_WORDS : ∀ H, SqT K H (He.ga K "OVER_WORDS") [.str "sum_over", .str "min_over", .str "max_over", .str "count_over", .str "last_over", .str "increase"]
  g_OVER_WORDS : mg "OVER_WORDS" = some (.ref (He.ga K "OVER_WORDS"))
  t_AGGREGATE_WORDS : ∀ H, SqT K H (He.ga K "AGGREGATE_WORDS") [.str "sum", .str "min", .str "max", .str "count"]
  g_AGGREGATE_WORDS : mg "AGGREGATE_WORDS" = some (.ref (He.ga K "AGGREGATE_WORDS"))
  t_JOIN_WORDS : ∀ H, SqT K H (He.ga K "JOIN_WORDS") [.str "or", .str "and", .str "unless"]
  g_JOIN_WORDS : mg "JOIN_WORDS" = some (.ref (He.ga K "JOIN_WORDS"))
  t_PAIRS : ∀ H, SqT K H (He.ga K "PAIRS") [.str "!=", .str "==", .str "<=", .str ">="]
  g_PAIRS : mg "PAIRS" = some (.ref (He.ga K "PAIRS"))
  g_STRENGTHS : mg "STRENGTHS" = some (.ref (He.ga K "STRENGTHS"))
  kd_STRENGTHS : ∃ es n, KDict K w (He.ga K "STRENGTHS") es n
  g_ACTIONS : mg "ACTIONS" = some (.ref (He.ga K "ACTIONS"))
  kd_ACTIONS : ∃ es n, KDict K w (He.ga K "ACTIONS") es n
  v_STRENGTHS : ∀ q ∈ strengthsL, ∃ u, PySem.W.nsIn K (He.ga K "STRENGTHS") q.1 = some (some u) ∧ RelV (.int q.2) u
  v_ACTIONS : ∀ q ∈ actionsL, ∃ u, PySem.W.nsIn K (He.ga K "ACTIONS") q.1 = some (some u) ∧ RelV (.ref (He.ga K q.2)) u
  z_len : mg "len" = none
  z_int : mg "int" = none
  z_str : mg "str" = none
  z_tuple : mg "tuple" = none
  z_list : mg "list" = none
  z_range : mg "range" = none
  z_enumerate : mg "enumerate" = none
/-! ### defs and methods that keep a promise -/
structure Cal (P : Program) (w : World) (K : PySem.W.Frag) (mg : Str → Option Value) (base : Heap) (k : Nat) (x : Str) (sp : Sp) : Prop where
  ex : ∃ (f : Addr) (fd : FuncData) (ps : List Str), FnOk P w K mg base CX0 k f fd ps sp ∧ mg x = some (.ref f) ∧ PySem.W.keepIn K (.ref f) = true ∧ Binds K fd ps []
structure Met (P : Program) (w : World) (K : PySem.W.Frag) (mg : Str → Option Value) (base : Heap) (k : Nat) (m : Str) (sp : Sp) : Prop where
  ex : ∃ (f : Addr) (fd : FuncData) (ps : List Str), Cls K (He.ga K "Machine") ∧ Meth K (He.ga K "Machine") m f ∧ FnOk P w K mg base CX0 k f fd ps sp ∧ Binds K fd ps []
section
variable {P : Program} {w : World} {K : PySem.W.Frag} {mg : Str → Option Value} {base : Heap}
theorem fn_ok {x qual : Str} {st : Stmt} {f : Addr} {fd : FuncData} {N ps : List Str} {k : Nat} {sp : Sp} (F : FunD K x qual (defArgs st) (defBody st) (defScope st) [] [] f fd) (S : FnScope N ps (defScope st)) (len : ∀ vs H Q E, sp vs H Q E → vs.length = ps.length)
    (hbody : ∀ (cdv : Value) (A : Around) (outer : List Env) (s : Shared) (H : Hp) (vs : List V) (Q : VK) (E : XK), Room k (A.deeper (envOfC qual (defScope st) s.heap.objs.size f cdv)) → sp vs H Q E →
      ∃ t, PSs (cxOf CX0 P w K mg base N qual (defScope st) f cdv A outer s H E).nox (defBody st) t ∧ t { nx := fun _ H' => Q .non H', rt := Q } (start N vs) H) : FnOk P w K mg base CX0 (k + 1) f fd ps sp :=
  F.ok S len fun cdv A outer s H vs Q E hr hsp => by
    obtain ⟨t, h, q⟩ := hbody cdv A outer s H vs Q E hr hsp
    exact ⟨t, h.nox, q⟩
theorem Cal.mono {j k : Nat} {x : Str} {sp : Sp} (c : Cal P w K mg base j x sp) (h : j ≤ k) : Cal P w K mg base k x sp := by
  obtain ⟨f, fd, ps, F, r⟩ := c.ex
  exact ⟨f, fd, ps, F.mono h, r⟩
end
section
variable {X : Cx} {k j : Nat} {x m : Str} {sp : Sp} {p pos apos : Pos} {e o : Expr} {es : List Expr} {ta : TE} {t : TA}
theorem pe_c (c : Cal X.prog X.w X.K X.mg X.base k x sp) (hr : Room j X.A) (hk : k ≤ j) (hg : Gl X x) (ha : PA X (e :: es) t)
    (hdb : (x == ("__debug__" : Str)) = false := by decide) (he : starEach (e :: es) X.env = (false, eval e X.env) :: starEach es X.env := by rfl) (hpl : (backTo pos (starEach es X.env)).any (·.1) = false := by rfl) :
    PE X (.Call (.Name x p) (e :: es) [] pos) (tCall sp [] E0 t) := by
  obtain ⟨f, fd, ps, F, hm, kp, b⟩ := c.ex
  exact pe_call F (hr.mono hk) hg hm kp b .nil pass0 ha hdb he hpl
theorem pe_mt {pl : Sem Bool} (c : Met X.prog X.w X.K X.mg X.base k m sp) (hr : Room j X.A) (hk : k ≤ j) (he : PE X o ta) (ha : PA X (e :: es) t)
    (hst : starEach (e :: es) X.env = (false, eval e X.env) :: starEach es X.env := by rfl) (hpl : (backTo pos (starEach es X.env)).any (·.1) = false := by rfl)
    (ht : eval (.Call (.Attribute o m apos) (e :: es) [] pos) X.env = (do
      let ov ← eval o X.env
      standAt apos.atName
      let (f, first) ← holding [ov] (getMethod ov m pl)
      callWith pos f first (backTo pos (starEach (e :: es) X.env)) (backToKw pos (keywordEach [] X.env))) := by rfl) :
    PE X (.Call (.Attribute o m apos) (e :: es) [] pos) (tMeth (He.ga X.K "Machine") m sp [] E0 ta t) := by
  obtain ⟨f, fd, ps, hc, hm, F, b⟩ := c.ex
  exact pe_meth (pl := pl) he hc hm F (hr.mono hk) b .nil pass0 ha hst hpl ht
theorem pe_mt0 {pl : Sem Bool} (c : Met X.prog X.w X.K X.mg X.base k m sp) (hr : Room j X.A) (hk : k ≤ j) (he : PE X o ta)
    (ht : eval (.Call (.Attribute o m apos) [] [] pos) X.env = (do
      let ov ← eval o X.env
      standAt apos.atName
      let (f, first) ← holding [ov] (getMethod ov m pl)
      callWith pos f first (backTo pos (starEach [] X.env)) (backToKw pos (keywordEach [] X.env))) := by rfl) :
    PE X (.Call (.Attribute o m apos) [] [] pos) (tMeth (He.ga X.K "Machine") m sp [] E0 ta tNil) := by
  obtain ⟨f, fd, ps, hc, hm, F, b⟩ := c.ex
  exact pe_meth0 (pl := pl) he hc hm F (hr.mono hk) b .nil pass0 ht
end
/-! ### named readings of values -/
section
variable {X : Cx}
theorem pe_globR {x : Str} {a : Addr} {pos : Pos} (hg : Gl X x) (hm : X.mg x = some (.ref a)) (hd : (x == ("__debug__" : Str)) = false := by decide) : PE X (.Name x pos) (tC (.ref a)) := pe_glob (v := .ref a) hg hm rfl hd
def rAddS : R2 := fun x y H Q => ∃ i j, x = .str i ∧ y = .str j ∧ i.length + j.length ≤ sizeLine ∧ Q (.str (i ++ j)) H
theorem op_addS : OpR X (binaryOp .Add) rAddS := op_add_str
def rMulS : R2 := fun x y H Q => ∃ (i : Str) (n : Int), x = .str i ∧ y = .int n ∧ MulOk i n ∧ Q (.str (Txt.mul i n)) H
theorem op_mulS : OpR X (binaryOp .Mult) rMulS := by
  intro pins s σ H x y v u Q I rx ry h
  obtain ⟨i, n, rfl, rfl, ok, q⟩ := h
  obtain ⟨t, rfl⟩ := rx
  obtain ⟨t', rfl⟩ := ry
  exact SB.mul ok fun t2 k => ⟨.str _, H, I.tok _, ⟨_, rfl⟩, q⟩
def rIsN : R2 := fun x y H Q => y = .non ∧ Q (.bl (decide (x = .non))) H
def rNotN : R2 := fun x y H Q => y = .non ∧ Q (.bl (!decide (x = .non))) H
theorem op_isN' : OpR X (compareOp .Is) rIsN := L2.op_isN
theorem op_notN' : OpR X (compareOp .IsNot) rNotN := L2.op_notN
def rInS : R2 := fun x y H Q => ∃ (c : Nat) (z : Str), x = .str ⟨#[c]⟩ ∧ y = .str z ∧ Q (.bl (decide (c ∈ z.cps.toList))) H
def rNotInS : R2 := fun x y H Q => ∃ (c : Nat) (z : Str), x = .str ⟨#[c]⟩ ∧ y = .str z ∧ Q (.bl (!decide (c ∈ z.cps.toList))) H
theorem op_inS : OpR X (compareOp .In) rInS := op_in_sign
theorem op_notInS : OpR X (compareOp .NotIn) rNotInS := op_notIn_sign
def rNotInD (K : PySem.W.Frag) (d : Addr) : R2 := fun x y H Q => ∃ (z : Str) (r : Option Value), x = .str z ∧ y = .ref d ∧ PySem.W.nsIn K d z = some r ∧ Q (.bl (!r.isSome)) H
theorem op_notInD {d : Addr} (D : ∃ es n, KDict X.K X.w d es n) : OpR X (compareOp .NotIn) (rNotInD X.K d) := by
  obtain ⟨es, n, D⟩ := D
  exact op_notIn_kd D
def rLen (K : PySem.W.Frag) : List V → Hp → VK → Prop := fun xs H Q => ∃ p ys, xs = [.ref p] ∧ (SqL K H p ys ∨ SqT K H p ys) ∧ Q (.int ys.length) H
theorem call_len' : CallR X (.builtin "len") (rLen X.K) := call_len_seq
def rLenS : List V → Hp → VK → Prop := fun xs H Q => ∃ z, xs = [.str z] ∧ z.length ≤ sizeLine ∧ Q (.int z.length) H
theorem call_lenS : CallR X (.builtin "len") rLenS := call_len_str
def rInt : List V → Hp → VK → Prop := fun xs H Q => (∃ i, xs = [.int i] ∧ Q (.int i) H) ∨ ∃ k, xs = [.bl k] ∧ Q (.int (if k then 1 else 0)) H
theorem call_int' : CallR X (.type "int") rInt := call_int1
def rStr : List V → Hp → VK → Prop := fun xs H Q => ∃ i, xs = [.int i] ∧ i.natAbs.log2 < 1920 ∧ Q (.str (toString i)) H
theorem call_str' : CallR X (.type "str") rStr := call_str_int
def rTupO (K : PySem.W.Frag) : List V → Hp → VK → Prop := fun xs H Q => ∃ p ys, xs = [.ref p] ∧ ((SqL K H p ys ∧ ∀ l, H l = none → Q (.ref l) (upd H l (.tup ys))) ∨ (SqT K H p ys ∧ Q (.ref p) H))
theorem call_tuple' : CallR X (.type "tuple") (rTupO X.K) := call_tuple_of
def rLstO (K : PySem.W.Frag) : List V → Hp → VK → Prop := fun xs H Q => ∃ p ys, xs = [.ref p] ∧ (SqL K H p ys ∨ SqT K H p ys) ∧ ∀ l, H l = none → Q (.ref l) (upd H l (.lst ys))
theorem call_list' : CallR X (.type "list") (rLstO X.K) := call_list_of
def rIdx : V → List V → Hp → VK → Prop := fun x xs H Q => ∃ (a b : Str) (k : Nat), x = .str a ∧ xs = [.str b] ∧ Txt.index0 a b = some k ∧ Q (.int (k : Nat)) H
theorem mt_indexF : MtR X "str.index" rIdx := by
  intro pins s σ H x xs v us Q I rx rs h
  obtain ⟨a, b, k, rfl, rfl, e, w⟩ := h
  obtain ⟨t, rfl⟩ := rx
  cases rs with
  | cons r1 rs =>
    cases rs
    obtain ⟨u, rfl⟩ := r1
    unfold Txt.index0 at e
    cases q : Builtin.Str.occurrences a b 0 a.length 1 with
    | nil =>
      rw [q] at e
      cases e
    | cons k' rest =>
      rw [q] at e
      cases e
      exact PySem.SC.index q ⟨.int (k : Nat), H, I.tok _, ⟨_, rfl⟩, w⟩
end
end Wf


set_option Elab.async false
set_option linter.all false
set_option maxRecDepth 100000
set_option maxHeartbeats 4000000
namespace Wf
open PySem PySem.Spec PyProof.Rows L2
/-! ### readings, step by step -/
section
variable {K : PySem.W.Frag} {D : Ends} {σ : L2.St} {H : Hp} {Q : VK} {QB : Bool → Hp → Prop} {QA : List V → Hp → Prop} {QS : L2.St → Hp → Prop} {t u : TS} {te ta tb : TE} {tt tu : TT} {tl tr : TA} {g : TG} {gs : TGs} {r : R2} {i : Nat} {v x y : V} {b : Bool} {E : XK} {sp : Sp}
theorem i_seq (h : t { D with nx := u D } σ H) : tSeq t u D σ H := h
theorem i_next (h : D.nx σ H) : tNext D σ H := h
theorem i_drop (h : te σ H fun _ H1 => D.nx σ H1) : tDrop te D σ H := h
theorem i_ret (h : te σ H D.rt) : tRet te D σ H := h
theorem i_retN (h : D.rt .non H) : tRetN D σ H := h
theorem i_asg (h : te σ H fun x H1 => g x σ H1 D.nx) : tAsg te g D σ H := h
theorem i_if (h : tt σ H fun b H1 => if b = true then t D σ H1 else u D σ H1) : tIfS tt t u D σ H := h
theorem i_gname (h : QS (σ.set i (some v)) H) : gName i v σ H QS := h
theorem i_gtup {n : Nat} {a : Addr} {xs : List V} (h1 : SqT K H a xs) (h2 : xs.length = n) (h : gs xs σ H QS) : gTup K n gs (.ref a) σ H QS := ⟨a, xs, rfl, h1, h2, h⟩
theorem i_gcons {vs : List V} (h : g v σ H fun σ' H' => gs vs σ' H' QS) : gCons g gs (v :: vs) σ H QS := ⟨v, vs, rfl, h⟩
theorem i_gnil (h : QS σ H) : gNil [] σ H QS := ⟨rfl, h⟩
theorem i_var (e : σ[i]? = some (some v)) (h : Q v H) : tVar i σ H Q := ⟨v, e, h⟩
theorem i_c (h : Q v H) : tC v σ H Q := h
theorem i_op (h : ta σ H fun x H1 => tb σ H1 fun y H2 => r x y H2 Q) : tOp r ta tb σ H Q := h
theorem i_un {r : V → Hp → VK → Prop} (h : ta σ H fun x H1 => r x H1 Q) : tUn r ta σ H Q := h
theorem i_neg {n : Int} (h : Q (.int (-n)) H) : rU (fun i => .int (-i)) (.int n) H Q := ⟨n, rfl, h⟩
theorem i_test (h : te σ H fun x H' => ∃ k, x = .bl k ∧ QB k H') : tTest te σ H QB := h
theorem i_tB (h : te σ H fun x H' => ∃ k, x = .bl k ∧ QB k H') : tB te σ H QB := h
theorem i_bl {R : Bool → Prop} (h : R b) : ∃ k, V.bl b = .bl k ∧ R k := ⟨b, rfl, h⟩
theorem i_and (h : tt σ H fun c H1 => if c = true then tu σ H1 QB else QB false H1) : tAnd tt tu σ H QB := h
theorem i_or (h : tt σ H fun c H1 => if c = true then QB true H1 else tu σ H1 QB) : tOr tt tu σ H QB := h
theorem i_not (h : tt σ H fun c H1 => QB (!c) H1) : tNot tt σ H QB := h
theorem i_andV (h : ta σ H fun x H1 => ∃ c, x = .bl c ∧ if c = true then tb σ H1 Q else Q (.bl false) H1) : tAndV ta tb σ H Q := h
theorem i_orV (h : ta σ H fun x H1 => ∃ c, x = .bl c ∧ if c = true then Q (.bl true) H1 else tb σ H1 Q) : tOrV ta tb σ H Q := h
theorem i_notV (h : ta σ H fun x H1 => ∃ c, x = .bl c ∧ Q (.bl (!c)) H1) : tNotV ta σ H Q := h
theorem i_ifV (h : tt σ H fun c H1 => if c = true then ta σ H1 Q else tb σ H1 Q) : tIf tt ta tb σ H Q := h
theorem i_cons (h : ta σ H fun x H1 => tr σ H1 fun xs H2 => QA (x :: xs) H2) : tCons ta tr σ H QA := h
theorem i_nil (h : QA [] H) : tNil σ H QA := h
theorem i_call (h : tl σ H fun vs H1 => sp vs H1 Q E) : tCall sp [] E tl σ H Q := by
  have e : (fun (vs : List V) (H1 : Hp) => sp (vs ++ []) H1 Q E) = fun vs H1 => sp vs H1 Q E := by
    funext vs H1
    rw [List.append_nil]
  show tl σ H fun vs H1 => sp (vs ++ []) H1 Q E
  rw [e]
  exact h
theorem i_meth {C : Addr} {m : Str} (h : ta σ H fun x H1 => ∃ a dx fs, x = .ref a ∧ H1 a = some (.ins C dx fs) ∧ fs.lookup m = none ∧ tl σ H1 fun vs H2 => sp (x :: vs) H2 Q E) : tMeth C m sp [] E ta tl σ H Q := by
  have e : (fun (x : V) (H1 : Hp) => ∃ a dx fs, x = V.ref a ∧ H1 a = some (.ins C dx fs) ∧ fs.lookup m = none ∧ tl σ H1 fun vs H2 => sp (x :: (vs ++ [])) H2 Q E) = fun x H1 => ∃ a dx fs, x = .ref a ∧ H1 a = some (.ins C dx fs) ∧ fs.lookup m = none ∧ tl σ H1 fun vs H2 => sp (x :: vs) H2 Q E := by
    funext x H1
    have e2 : (fun (vs : List V) (H2 : Hp) => sp (x :: (vs ++ [])) H2 Q E) = fun vs H2 => sp (x :: vs) H2 Q E := by
      funext vs H2
      rw [List.append_nil]
    rw [e2]
  show ta σ H fun x H1 => ∃ a dx fs, x = .ref a ∧ H1 a = some (.ins C dx fs) ∧ fs.lookup m = none ∧ tl σ H1 fun vs H2 => sp (x :: (vs ++ [])) H2 Q E
  rw [e]
  exact h
theorem i_cb {r : List V → Hp → VK → Prop} (h : tl σ H fun vs H1 => r vs H1 Q) : tCB r tl σ H Q := h
theorem i_tup (h : tl σ H fun xs H1 => xs.length ≤ sizeLine ∧ ∀ p, H1 p = none → Q (.ref p) (upd H1 p (.tup xs))) : tTup tl σ H Q := h
theorem i_lst (h : tl σ H fun xs H1 => xs.length ≤ sizeLine ∧ ∀ p, H1 p = none → Q (.ref p) (upd H1 p (.lst xs))) : tLst tl σ H Q := h
theorem i_fld {f : Str} (h : ta σ H fun x H1 => ∃ a C dx fs v, x = .ref a ∧ H1 a = some (.ins C dx fs) ∧ Cls K C ∧ NoAttr K C f ∧ fs.lookup f = some v ∧ Q v H1) : tFld K ta f σ H Q := h
theorem i_sfld {f : Str} (h : tb σ H fun y H1 => ta σ H1 fun x H2 => ∃ a C dx fs, x = .ref a ∧ H2 a = some (.ins C dx fs) ∧ Cls K C ∧ NoAttr K C f ∧ fs.length < 1000 ∧ D.nx σ (upd H2 a (.ins C dx (putF f y fs)))) : sFld K ta tb f D σ H := h
theorem i_rEq (hs : scal x y = true) (h : Q (.bl (decide (x = y))) H) : rEq x y H Q := ⟨hs, h⟩
theorem i_rNe (hs : scal x y = true) (h : Q (.bl (!decide (x = y))) H) : rNe x y H Q := ⟨hs, h⟩
theorem i_rI0 {f : Int → Int → V} {m n : Int} (h : Q (f m n) H) : rI0 f (.int m) (.int n) H Q := ⟨m, n, rfl, rfl, h⟩
theorem i_rI {C : Int → Int → Prop} {f : Int → Int → V} {m n : Int} (c : C m n) (h : Q (f m n) H) : rI C f (.int m) (.int n) H Q := ⟨m, n, rfl, rfl, c, h⟩
theorem i_rAddS {a c : Str} (hz : a.length + c.length ≤ sizeLine) (h : Q (.str (a ++ c)) H) : rAddS (.str a) (.str c) H Q := ⟨a, c, rfl, rfl, hz, h⟩
theorem i_rIsN (h : Q (.bl (decide (x = .non))) H) : rIsN x .non H Q := ⟨rfl, h⟩
theorem i_rNotN (h : Q (.bl (!decide (x = .non))) H) : rNotN x .non H Q := ⟨rfl, h⟩
theorem i_rLenS {z : Str} (hz : z.length ≤ sizeLine) (h : Q (.int z.length) H) : rLenS [.str z] H Q := ⟨z, rfl, hz, h⟩
theorem i_rLen {p : Addr} {ys : List V} (h1 : SqL K H p ys ∨ SqT K H p ys) (h : Q (.int ys.length) H) : rLen K [.ref p] H Q := ⟨p, ys, rfl, h1, h⟩
theorem i_rTupL {p : Addr} {ys : List V} (h1 : SqL K H p ys) (h : ∀ l, H l = none → Q (.ref l) (upd H l (.tup ys))) : rTupO K [.ref p] H Q := ⟨p, ys, rfl, .inl ⟨h1, h⟩⟩
theorem i_rLstO {p : Addr} {ys : List V} (h1 : SqL K H p ys ∨ SqT K H p ys) (h : ∀ l, H l = none → Q (.ref l) (upd H l (.lst ys))) : rLstO K [.ref p] H Q := ⟨p, ys, rfl, h1, h⟩
theorem i_bm {T : String} {r : V → List V → Hp → VK → Prop} (h : ta σ H fun x H1 => tyV K T x H1 ∧ tl σ H1 fun xs H2 => r x xs H2 Q) : tBM K T r ta tl σ H Q := h
theorem i_bm0 {T : String} {r : V → List V → Hp → VK → Prop} (h : ta σ H fun x H1 => tyV K T x H1 ∧ r x [] H1 Q) : tBM0 K T r ta σ H Q := h
theorem i_tyL {p : Addr} {ys : List V} {R : Prop} (h1 : SqL K H p ys) (h : R) : tyV K "list" (.ref p) H ∧ R := ⟨.inl ⟨rfl, _, h1⟩, h⟩
theorem i_append {p : Addr} {ys : List V} (h1 : H p = some (.lst ys)) (h2 : ys.length < sizeLine) (h : Q .non (upd H p (.lst (ys ++ [y])))) : rAppend (.ref p) [y] H Q := ⟨p, ys, y, rfl, rfl, h1, h2, h⟩
theorem i_pop {p : Addr} {ys : List V} (h1 : H p = some (.lst (ys ++ [y]))) (h : Q y (upd H p (.lst ys))) : rPop (.ref p) [] H Q := ⟨p, ys ++ [y], y, rfl, rfl, h1, by simp, by rw [List.dropLast_concat]; exact h⟩
theorem i_rInt {n : Int} (h : Q (.int n) H) : rInt [.int n] H Q := .inl ⟨n, rfl, h⟩
theorem i_rIxT {p : Addr} {xs : List V} {n : Int} (h1 : SqT K H p xs) (h2 : atI xs n = some v) (h : Q v H) : rIxT K (.ref p) (.int n) H Q := ⟨p, xs, n, v, rfl, rfl, h1, h2, h⟩
theorem i_rIxL {p : Addr} {xs : List V} {n : Int} (h1 : SqL K H p xs) (h2 : atI xs n = some v) (h : Q v H) : rIxL K (.ref p) (.int n) H Q := ⟨p, xs, n, v, rfl, rfl, h1, h2, h⟩
theorem i_rIxS {z : Str} {n : Int} {c : Nat} (h1 : z.length ≤ sizeLine) (h2 : atI z.cps.toList n = some c) (h : Q (.str ⟨#[c]⟩) H) : rIxS (.str z) (.int n) H Q := ⟨z, n, c, rfl, rfl, h1, h2, h⟩
theorem i_sl {r : V → Option Int → Option Int → Hp → VK → Prop} {to1 to2 : TO} (h : te σ H fun x H1 => to1 σ H1 fun l H2 => to2 σ H2 fun u H3 => r x l u H3 Q) : tSl r te to1 to2 σ H Q := h
theorem i_part {QO : Option Int → Hp → Prop} (h : te σ H fun x H1 => ∃ i, x = .int i ∧ QO (some i) H1) : tPart te σ H QO := h
theorem i_nopart {QO : Option Int → Hp → Prop} (h : QO none H) : tNoPart σ H QO := h
theorem i_int {R : Int → Prop} {n : Int} (h : R n) : ∃ i, V.int n = .int i ∧ R i := ⟨n, rfl, h⟩
theorem i_slS {z : Str} {lo hi : Option Int} (h1 : z.length ≤ sizeLine) (h : Q (.str (cutS z lo hi)) H) : rSlS (.str z) lo hi H Q := ⟨z, rfl, h1, h⟩
theorem i_slL {p : Addr} {ys : List V} {lo hi : Option Int} (h1 : SqL K H p ys) (h : ∀ q, H q = none → Q (.ref q) (upd H q (.lst (cutV ys lo hi)))) : rSlL K (.ref p) lo hi H Q := ⟨p, ys, rfl, h1, h⟩
theorem i_inS {c : Nat} {z : Str} (h : Q (.bl (decide (c ∈ z.cps.toList))) H) : rInS (.str ⟨#[c]⟩) (.str z) H Q := ⟨c, z, rfl, rfl, h⟩
theorem i_notInS {c : Nat} {z : Str} (h : Q (.bl (!decide (c ∈ z.cps.toList))) H) : rNotInS (.str ⟨#[c]⟩) (.str z) H Q := ⟨c, z, rfl, rfl, h⟩
theorem i_idx {x y : Str} {k : Nat} (h1 : Txt.index0 x y = some k) (h : Q (.int (k : Nat)) H) : rIdx (.str x) [.str y] H Q := ⟨x, y, k, rfl, rfl, h1, h⟩
theorem i_tyS {z : Str} {R : Prop} (h : R) : tyV K "str" (.str z) H ∧ R := ⟨rfl, h⟩
theorem i_rIn {neg : Bool} {p : Addr} {xs : List V} (h1 : SqL K H p xs ∨ SqT K H p xs) (h2 : flatV x = true) (h3 : xs.all flatV = true) (h : Q (.bl (if neg then !inV x xs else inV x xs)) H) : rIn K neg x (.ref p) H Q := ⟨p, xs, rfl, h1, h2, h3, h⟩
/-! loops -/
def ForW (J : It) (g : TG) (tb : TS) (D : Ends) (σ : L2.St) (H1 : Hp) : Prop := ∃ W : Nat → Nat → L2.St → Hp → Prop, (∃ m, W 0 m σ H1) ∧ ∀ i m σ H, W i m σ H →
  (J.stop i H ∧ D.nx σ H) ∨ (J.go i H ∧ ∃ N : L2.St → Hp → Prop, (∀ σ' H', N σ' H' → ∃ m', m' < m ∧ W (i + 1) m' σ' H') ∧ ∀ x H', J.yld i H x H' → g x σ H' fun σ2 H2 => tb { D with nx := N, ct := N, bk := D.nx } σ2 H2)
theorem i_forL (h : te σ H fun x H1 => ∃ a, x = .ref a ∧ (∃ xs, SqL K H1 a xs) ∧ ForW (Itl K a) g t D σ H1) : tFor (iList K te) g t D σ H := h
theorem i_forT (h : te σ H fun x H1 => ∃ a, x = .ref a ∧ (∃ xs, SqT K H1 a xs) ∧ ForW (Itt K a) g t D σ H1) : tFor (iTup K te) g t D σ H := h
theorem i_forR1 (h : tl σ H fun vs H1 => ∃ j : Int, vs = [.int j] ∧ -(2 ^ 62) ≤ j ∧ j < 2 ^ 62 ∧ ForW (Itr 0 j.toNat) g t D σ H1) : tFor (iRng1 tl) g t D σ H := h
theorem i_listW {a : Addr} {xs : List V} (h1 : SqL K H a xs) (h : ForW (Itl K a) g t D σ H) : ∃ q, V.ref a = .ref q ∧ (∃ xs, SqL K H q xs) ∧ ForW (Itl K q) g t D σ H := ⟨a, rfl, ⟨xs, h1⟩, h⟩
theorem i_tupW {a : Addr} {xs : List V} (h1 : SqT K H a xs) (h : ForW (Itt K a) g t D σ H) : ∃ q, V.ref a = .ref q ∧ (∃ xs, SqT K H q xs) ∧ ForW (Itt K q) g t D σ H := ⟨a, rfl, ⟨xs, h1⟩, h⟩
theorem i_list {a : Addr} {xs : List V} (Pv : Nat → L2.St → Hp → Prop) (h0 : Pv 0 σ H) (hl : ∀ i σ H, i ≤ xs.length → Pv i σ H → SqL K H a xs)
    (hs : ∀ i x σ H, xs[i]? = some x → Pv i σ H → g x σ H fun σ2 H2 => t { D with nx := Pv (i + 1), ct := Pv (i + 1), bk := D.nx } σ2 H2) (hd : ∀ σ H, Pv xs.length σ H → D.nx σ H) : ForW (Itl K a) g t D σ H := for_list Pv h0 hl hs hd
theorem i_range {lo : Int} {n : Nat} (Pv : Nat → L2.St → Hp → Prop) (h0 : Pv 0 σ H)
    (hs : ∀ i σ H, i < n → Pv i σ H → g (.int (lo + i)) σ H fun σ2 H2 => t { D with nx := Pv (i + 1), ct := Pv (i + 1), bk := D.nx } σ2 H2) (hd : ∀ σ H, Pv n σ H → D.nx σ H) : ForW (Itr lo n) g t D σ H := for_range Pv h0 hs hd
/-! tests whose answer is known -/
theorem i_T {c : Bool} {A B : Prop} (hc : c = true) (h : A) : if c = true then A else B := by
  rw [if_pos hc]
  exact h
theorem i_F {c : Bool} {A B : Prop} (hc : c = false) (h : B) : if c = true then A else B := by
  rw [hc, if_neg Bool.false_ne_true]
  exact h
theorem i_C {c : Bool} {A B : Prop} (h1 : c = true → A) (h2 : c = false → B) : if c = true then A else B := by
  cases c with
  | true => exact i_T rfl (h1 rfl)
  | false => exact i_F rfl (h2 rfl)
end
/-! ### heaps that grow -/
theorem same_new {H : Hp} {p : Addr} (h : H p = none) (o : HO) : Same H (upd H p o) := fun b u q => by rw [upd_ne (ne_of_none q h)]; exact q
theorem i_new {H : Hp} {o : HO} {R : Addr → Hp → Prop} (h : ∀ p H', H p = none → Same H H' → H' p = some o → H' = upd H p o → R p H') : ∀ p, H p = none → R p (upd H p o) := fun p hp => h p _ hp (same_new hp o) upd_same rfl
theorem Same.sqT {K : PySem.W.Frag} {H H' : Hp} {a : Addr} {xs : List V} (e : Same H H') (h : SqT K H a xs) : SqT K H' a xs := by
  rcases h with (h | ⟨o, h⟩) | h
  · exact .inl (.inl (e _ _ h))
  · exact .inl (.inr ⟨o, e _ _ h⟩)
  · exact .inr h
end Wf


set_option Elab.async false
set_option linter.all false
set_option maxRecDepth 100000
set_option maxHeartbeats 4000000
namespace Wf
open PySem PySem.Spec PyProof.Rows L2
/-! ### expressions -/
inductive Op where
  | or | and | unless | lt | le | gt | ge | eq | ne | add | sub | mul
  deriving DecidableEq
def Op.str : Op → Str
  | .or => "or" | .and => "and" | .unless => "unless" | .lt => "<" | .le => "<=" | .gt => ">" | .ge => ">=" | .eq => "==" | .ne => "!=" | .add => "+" | .sub => "-" | .mul => "*"
def Op.lev : Op → Nat
  | .or => 1 | .and => 2 | .unless => 2 | .lt => 3 | .le => 3 | .gt => 3 | .ge => 3 | .eq => 3 | .ne => 3 | .add => 4 | .sub => 4 | .mul => 5
def Op.join : Op → Bool
  | .or => true | .and => true | .unless => true | _ => false
def Op.arith : Op → Bool
  | .add => true | .sub => true | .mul => true | _ => false
/-- the words of functions over a range -/
inductive Ow where
  | sum | min | max | count | last | incr
  deriving DecidableEq
def Ow.str : Ow → Str
  | .sum => "sum_over" | .min => "min_over" | .max => "max_over" | .count => "count_over" | .last => "last_over" | .incr => "increase"
/-- the words of aggregations -/
inductive Aw where
  | sum | min | max | count
  deriving DecidableEq
def Aw.str : Aw → Str
  | .sum => "sum" | .min => "min" | .max => "max" | .count => "count"
structure Mat where
  name : Str
  values : List Str
  inside : Bool
inductive Ex where
  | num (n : Int)
  | latest (m : Str) (ms : List Mat)
  | over (w : Ow) (m : Str) (ms : List Mat) (s : Int)
  | bin (o : Op) (l r : Ex)
  | agg (w : Aw) (ns : List Str) (i : Ex)
/-- kinds: some false a number, some true a vector -/
def kdBin (o : Op) : Option Bool → Option Bool → Option Bool
  | some a, some b => if o.join then (if a && b then some true else none) else if a || b then some true else if o.arith then some false else none
  | _, _ => none
def Ex.kd : Ex → Option Bool
  | .num _ => some false
  | .latest _ _ => some true
  | .over _ _ _ _ => some true
  | .bin o l r => kdBin o l.kd r.kd
  | .agg _ _ i => if i.kd = some true then some true else none
def kdV : Option Bool → V
  | none => .non
  | some false => .str "number"
  | some true => .str "vector"
def Ex.lev : Ex → Nat
  | .bin o _ _ => o.lev
  | _ => 6
def Ex.depth : Ex → Nat
  | .bin _ l r => max l.depth r.depth + 1
  | .agg _ _ i => i.depth + 1
  | _ => 0
def Ex.sel : Ex → Nat
  | .num _ => 0
  | .latest _ _ => 1
  | .over _ _ _ _ => 1
  | .bin _ l r => l.sel + r.sel
  | .agg _ _ i => i.sel
def Ex.ops : Ex → Nat
  | .bin _ l r => l.ops + r.ops + 1
  | .agg _ _ i => i.ops + 1
  | _ => 0
/-! ### the normal form -/
def q1 (v : Str) : Str := ("\"" : Str) ++ v ++ ("\"" : Str)
def showMat (m : Mat) : Str := match m.values with
  | [v] => m.name ++ (if m.inside then ("=\"" : Str) else ("!=\"" : Str)) ++ v ++ ("\"" : Str)
  | vs => m.name ++ (if m.inside then (" in (" : Str) else (" not in (" : Str)) ++ Txt.join (", " : Str) (vs.map q1) ++ (")" : Str)
def showSel (m : Str) (ms : List Mat) : Str := match ms with
  | [] => m
  | _ => m ++ ("{" : Str) ++ Txt.join (", " : Str) (ms.map showMat) ++ ("}" : Str)
def showAgg (w : Str) (ns : List Str) (i : Str) : Str := match ns with
  | [] => w ++ ("(" : Str) ++ i ++ (")" : Str)
  | _ => w ++ (" by (" : Str) ++ Txt.join (", " : Str) ns ++ (") (" : Str) ++ i ++ (")" : Str)
def brk (b : Bool) (x : Str) : Str := if b then ("(" : Str) ++ x ++ (")" : Str) else x
def Ex.show : Ex → Str
  | .num n => (toString n : String)
  | .latest m ms => showSel m ms
  | .over w m ms s => w.str ++ ("(" : Str) ++ showSel m ms ++ ("[" : Str) ++ ((toString s : String) : Str) ++ ("])" : Str)
  | .bin o l r => brk (decide (l.lev < o.lev)) l.show ++ (" " : Str) ++ o.str ++ (" " : Str) ++ brk (decide (r.lev < o.lev + 1)) r.show
  | .agg w ns i => showAgg w.str ns i.show
/-! ### how they stand in the heap -/
section
variable (K : PySem.W.Frag) (H : Hp)
def MatsR : List Mat → List V → Prop
  | [], vs => vs = []
  | m :: ms, vs => ∃ (a b : Addr) (r : List V), vs = .ref a :: r ∧ SqT K H a [.str m.name, .ref b, .bl m.inside] ∧ SqT K H b (m.values.map V.str) ∧ MatsR ms r
def ER : Ex → V → Prop
  | .num n, v => ∃ a, v = .ref a ∧ SqT K H a [.str "number", .int n]
  | .latest m ms, v => ∃ a b vs, v = .ref a ∧ SqT K H a [.str "latest", .str m, .ref b] ∧ SqT K H b vs ∧ MatsR K H ms vs
  | .over w m ms s, v => ∃ a b vs, v = .ref a ∧ SqT K H a [.str "over", .str w.str, .str m, .ref b, .int s] ∧ SqT K H b vs ∧ MatsR K H ms vs
  | .bin o l r, v => ∃ a x y, v = .ref a ∧ SqT K H a [.str "binary", .str o.str, x, y] ∧ ER l x ∧ ER r y
  | .agg w ns i, v => ∃ a b x, v = .ref a ∧ SqT K H a [.str "aggregate", .str w.str, .ref b, x] ∧ SqT K H b (ns.map V.str) ∧ ER i x
end
/-- all tuples stand -/
def TupLe (K : PySem.W.Frag) (H H' : Hp) : Prop := ∀ a xs, SqT K H a xs → SqT K H' a xs
section
variable {K : PySem.W.Frag} {H H' H2 : Hp}
theorem TupLe.refl : TupLe K H H := fun _ _ h => h
theorem TupLe.trans (a : TupLe K H H') (b : TupLe K H' H2) : TupLe K H H2 := fun x xs h => b x xs (a x xs h)
theorem Same.tup (s : Same H H') : TupLe K H H' := fun _ _ h => Same.sqT s h
/-- an object that is no tuple is written -/
theorem TupLe.upd {p : Addr} {o u : HO} (h : H p = some u) (hu : ∀ xs, u ≠ .tup xs) (hf : ∀ ob xs, u ≠ .frz ob (.tup xs)) : TupLe K H (upd H p o) := fun a xs q => by
  rcases q with (q | ⟨ob, q⟩) | q
  · exact .inl (.inl (by rw [upd_ne (ne_of q h (fun e => hu _ e.symm))]; exact q))
  · exact .inl (.inr ⟨ob, by rw [upd_ne (ne_of q h (fun e => hf _ _ e.symm))]; exact q⟩)
  · exact .inr q
theorem MatsR.mono (t : TupLe K H H') : ∀ {ms : List Mat} {vs : List V}, MatsR K H ms vs → MatsR K H' ms vs
  | [], _, h => h
  | _ :: ms, _, ⟨a, b, r, e, h1, h2, h3⟩ => ⟨a, b, r, e, t _ _ h1, t _ _ h2, MatsR.mono t h3⟩
theorem ER.mono (t : TupLe K H H') : ∀ {e : Ex} {v : V}, ER K H e v → ER K H' e v
  | .num _, _, ⟨a, e, h⟩ => ⟨a, e, t _ _ h⟩
  | .latest _ _, _, ⟨a, b, vs, e, h1, h2, h3⟩ => ⟨a, b, vs, e, t _ _ h1, t _ _ h2, h3.mono t⟩
  | .over _ _ _ _, _, ⟨a, b, vs, e, h1, h2, h3⟩ => ⟨a, b, vs, e, t _ _ h1, t _ _ h2, h3.mono t⟩
  | .bin _ l r, _, ⟨a, x, y, e, h1, h2, h3⟩ => ⟨a, x, y, e, t _ _ h1, ER.mono t h2, ER.mono t h3⟩
  | .agg _ _ i, _, ⟨a, b, x, e, h1, h2, h3⟩ => ⟨a, b, x, e, t _ _ h1, t _ _ h2, ER.mono t h3⟩
end
/-! ### names, values, good expressions -/
def letters : List Nat := List.map Char.toNat "abcdefghijklmnopqrstuvwxyz".toList
def wordCs : List Nat := List.map Char.toNat "abcdefghijklmnopqrstuvwxyz0123456789_".toList
def digitCs : List Nat := List.map Char.toNat "0123456789".toList
def symCs : List Nat := List.map Char.toNat "(){}[],=<>+-*".toList
def NameOk (s : Str) : Prop := ∃ (c : Nat) (x : List Nat), s.cps.toList = c :: x ∧ c ∈ letters ∧ (∀ y ∈ x, y ∈ wordCs) ∧ x.length ≤ 19
def LabelOk (s : Str) : Prop := NameOk s ∧ s ≠ "metric"
def WorthOk (s : Str) : Prop := (∀ y ∈ s.cps.toList, y ∈ wordCs) ∧ s.cps.toList.length ≤ 20
structure MatOk (m : Mat) : Prop where
  name : LabelOk m.name
  vals : ∀ v ∈ m.values, WorthOk v
  ne : m.values ≠ []
  few : m.values.length ≤ 6
structure MatsOk (ms : List Mat) : Prop where
  all : ∀ m ∈ ms, MatOk m
  few : ms.length ≤ 6
def Ex.size : Ex → Nat
  | .bin _ l r => l.size + r.size + 1
  | .agg _ _ i => i.size + 1
  | _ => 1
def Ex.Ok : Ex → Prop
  | .num n => n.natAbs < 1000000000000000
  | .latest m ms => NameOk m ∧ MatsOk ms
  | .over _ m ms s => NameOk m ∧ MatsOk ms ∧ 1 ≤ s ∧ s ≤ 1000
  | .bin _ l r => l.Ok ∧ r.Ok
  | .agg _ ns i => (∀ n ∈ ns, NameOk n) ∧ ns.length ≤ 6 ∧ i.Ok
/-! ### tokens -/
inductive Tk where
  | word (s : Str) | num (n : Int) | str (s : Str) | sym (s : Str)
def Tk.kind : Tk → Str
  | .word _ => "word" | .num _ => "number" | .str _ => "string" | .sym _ => "symbol"
def Tk.val : Tk → V
  | .word s => .str s | .num n => .int n | .str s => .str s | .sym s => .str s
def Tk.sign : Tk → Str
  | .word _ => "word" | .num _ => "number" | .str _ => "string" | .sym s => s
def TokR (K : PySem.W.Frag) (H : Hp) (tk : Tk) (v : V) : Prop := ∃ (a : Addr) (pl : Int), v = .ref a ∧ SqT K H a [.str tk.kind, tk.val, .int pl]
def ToksR (K : PySem.W.Frag) (H : Hp) : List Tk → List V → Prop
  | [], vs => vs = []
  | t :: ts, vs => ∃ v r, vs = v :: r ∧ TokR K H t v ∧ ToksR K H ts r
/-! ### the machine -/
inductive Md where
  | operand | negative | done
  | named (w : Str)
  | overMetric (w : Ow)
  | overNamed (w : Ow) (m : Str)
  | label (o : Option Ow) (m : Str) (ms : List Mat)
  | test (o : Option Ow) (m : Str) (ms : List Mat) (l : Str)
  | notIn (o : Option Ow) (m : Str) (ms : List Mat) (l : Str)
  | value (o : Option Ow) (m : Str) (ms : List Mat) (l : Str) (b : Bool)
  | listOpen (o : Option Ow) (m : Str) (ms : List Mat) (l : Str) (b : Bool)
  | item (o : Option Ow) (m : Str) (ms : List Mat) (l : Str) (b : Bool) (fo : List Str)
  | itemEnd (o : Option Ow) (m : Str) (ms : List Mat) (l : Str) (b : Bool) (fo : List Str)
  | matched (o : Option Ow) (m : Str) (ms : List Mat)
  | rangeOpen (o : Ow) (m : Str) (ms : List Mat)
  | span (o : Ow) (m : Str) (ms : List Mat)
  | spanEnd (o : Ow) (m : Str) (ms : List Mat) (n : Int)
  | overClose (o : Ow) (m : Str) (ms : List Mat) (n : Int)
  | byOpen (w : Aw)
  | byName (w : Aw) (fo : List Str)
  | byEnd (w : Aw) (fo : List Str)
  | aggOpen (w : Aw) (fo : List Str)
def Md.str : Md → Str
  | .operand => "operand" | .negative => "negative" | .done => "done" | .named _ => "named" | .overMetric _ => "over_metric" | .overNamed _ _ => "over_named"
  | .label _ _ _ => "label" | .test _ _ _ _ => "test" | .notIn _ _ _ _ => "not_in" | .value _ _ _ _ _ => "value" | .listOpen _ _ _ _ _ => "list_open"
  | .item _ _ _ _ _ _ => "item" | .itemEnd _ _ _ _ _ _ => "item_end" | .matched _ _ _ => "matched" | .rangeOpen _ _ _ => "range_open" | .span _ _ _ => "span"
  | .spanEnd _ _ _ _ => "span_end" | .overClose _ _ _ _ => "over_close" | .byOpen _ => "by_open" | .byName _ _ => "by_name" | .byEnd _ _ => "by_end" | .aggOpen _ _ => "aggregate_open"
inductive Ent where
  | open
  | agg (w : Aw) (ns : List Str)
  | inf (o : Op) (l : Ex)
structure Core where
  stack : List Ent
  made : Option Ex
  sel : Nat
  ops : Nat
  spans : Nat
section
variable (K : PySem.W.Frag) (H : Hp)
/-- a made pair: an expression and its kind -/
def MadeR (e : Ex) (v : V) : Prop := ∃ (t : Addr) (x : V) (k : Bool), v = .ref t ∧ SqT K H t [x, kdV (some k)] ∧ ER K H e x ∧ e.kd = some k
def EntR : Ent → V → Prop
  | .open, v => ∃ t, v = .ref t ∧ SqT K H t [.str "open"]
  | .agg w ns, v => ∃ (t u : Addr) (pl : Int), v = .ref t ∧ SqT K H t [.str "aggregate", .str w.str, .ref u, .int pl] ∧ SqT K H u (ns.map V.str)
  | .inf o l, v => ∃ (t : Addr) (x : V) (pl : Int), v = .ref t ∧ SqT K H t [.str "infix", .str o.str, x, .int pl] ∧ MadeR K H l x
def StR : List Ent → List V → Prop
  | [], vs => vs = []
  | e :: st, vs => ∃ (r : List V) (v : V), vs = r ++ [v] ∧ EntR K H e v ∧ StR st r
end
section
variable {K : PySem.W.Frag} {H H' : Hp}
theorem MadeR.mono (t : TupLe K H H') {e : Ex} {v : V} : MadeR K H e v → MadeR K H' e v := fun ⟨a, x, k, h1, h2, h3, h4⟩ => ⟨a, x, k, h1, t _ _ h2, h3.mono t, h4⟩
theorem EntR.mono (t : TupLe K H H') : ∀ {e : Ent} {v : V}, EntR K H e v → EntR K H' e v
  | .open, _, ⟨a, h1, h2⟩ => ⟨a, h1, t _ _ h2⟩
  | .agg _ _, _, ⟨a, u, pl, h1, h2, h3⟩ => ⟨a, u, pl, h1, t _ _ h2, t _ _ h3⟩
  | .inf _ _, _, ⟨a, x, pl, h1, h2, h3⟩ => ⟨a, x, pl, h1, t _ _ h2, h3.mono t⟩
theorem StR.mono (t : TupLe K H H') : ∀ {st : List Ent} {vs : List V}, StR K H st vs → StR K H' st vs
  | [], _, h => h
  | _ :: _, _, ⟨r, v, h1, h2, h3⟩ => ⟨r, v, h1, h2.mono t, StR.mono t h3⟩
theorem StR.len : ∀ {st : List Ent} {vs : List V}, StR K H st vs → vs.length = st.length
  | [], _, h => by rw [show _ = [] from h]; rfl
  | _ :: _, _, ⟨r, v, h1, h2, h3⟩ => by rw [h1, List.length_append, StR.len h3]; rfl
end
/-- apply the operators on top of the stack that are at least so strong -/
def comb (least : Nat) : List Ent → Ex → Nat → Option (List Ent × Ex × Nat)
  | .inf o l :: r, e, n => if least ≤ o.lev then (if (Ex.bin o l e).kd.isSome then comb least r (.bin o l e) (n + 1) else none) else some (.inf o l :: r, e, n)
  | st, e, n => some (st, e, n)
def Op.tk (o : Op) : Tk := if o.join then .word o.str else .sym o.str
/-- behind an expression -/
inductive StepD : Core → Tk → Md → Core → Prop where
  | op {co : Core} {e e' : Ex} {st : List Ent} {n : Nat} (o : Op) (he : co.made = some e) (hc : comb o.lev co.stack e co.ops = some (st, e', n)) (hz : st.length ≤ 1000) : StepD co o.tk .operand ⟨.inf o e' :: st, some e', co.sel, n, co.spans⟩
  | close {co : Core} {e e' : Ex} {st : List Ent} {n : Nat} (he : co.made = some e) (hc : comb 0 co.stack e co.ops = some (.open :: st, e', n)) : StepD co (.sym ")") .done ⟨st, some e', co.sel, n, co.spans⟩
  | agg {co : Core} {e e' : Ex} {st : List Ent} {n : Nat} {w : Aw} {ns : List Str} (he : co.made = some e) (hc : comb 0 co.stack e co.ops = some (.agg w ns :: st, e', n)) (hk : e'.kd = some true) : StepD co (.sym ")") .done ⟨st, some (.agg w ns e'), co.sel, n + 1, co.spans⟩
def Core.named (co : Core) (w : Str) : Core := { co with made := some (.latest w []), sel := co.sel + 1 }
def finSel (co : Core) (o : Option Ow) (m : Str) (ms : List Mat) : Md × Core := match o with
  | some w => (.rangeOpen w m ms, co)
  | none => (.done, { co with made := some (.latest m ms), sel := co.sel + 1 })
inductive Step : Md → Core → Tk → Md → Core → Prop where
  | num {co : Core} (n : Int) : Step .operand co (.num n) .done { co with made := some (.num n) }
  | word {co : Core} (w : Str) : Step .operand co (.word w) (.named w) co
  | open {co : Core} (hz : co.stack.length ≤ 1000) : Step .operand co (.sym "(") .operand { co with stack := .open :: co.stack }
  | minus {co : Core} : Step .operand co (.sym "-") .negative co
  | neg {co : Core} (n : Int) : Step .negative co (.num n) .done { co with made := some (.num (-n)) }
  | done {co co' : Core} {tk : Tk} {md : Md} (h : StepD co tk md co') : Step .done co tk md co'
  | overOpen {co : Core} (o : Ow) : Step (.named o.str) co (.sym "(") (.overMetric o) co
  | aggOpen0 {co : Core} (a : Aw) (hz : co.stack.length ≤ 1000) : Step (.named a.str) co (.sym "(") .operand { co with stack := .agg a [] :: co.stack }
  | brace {co : Core} (w : Str) : Step (.named w) co (.sym "{") (.label none w []) co
  | by {co : Core} (a : Aw) : Step (.named a.str) co (.word "by") (.byOpen a) co
  | namedDone {co co' : Core} {tk : Tk} {md : Md} (w : Str) (h : StepD (co.named w) tk md co') : Step (.named w) co tk md co'
  | overMetric {co : Core} (o : Ow) (m : Str) : Step (.overMetric o) co (.word m) (.overNamed o m) co
  | overBrace {co : Core} (o : Ow) (m : Str) : Step (.overNamed o m) co (.sym "{") (.label (some o) m []) co
  | overRange {co : Core} (o : Ow) (m : Str) : Step (.overNamed o m) co (.sym "[") (.span o m []) co
  | label {co : Core} {o : Option Ow} {m : Str} {ms : List Mat} (l : Str) (hl : l ≠ "metric") : Step (.label o m ms) co (.word l) (.test o m ms l) co
  | testEq {co : Core} {o : Option Ow} {m l : Str} {ms : List Mat} : Step (.test o m ms l) co (.sym "=") (.value o m ms l true) co
  | testNe {co : Core} {o : Option Ow} {m l : Str} {ms : List Mat} : Step (.test o m ms l) co (.sym "!=") (.value o m ms l false) co
  | testIn {co : Core} {o : Option Ow} {m l : Str} {ms : List Mat} : Step (.test o m ms l) co (.word "in") (.listOpen o m ms l true) co
  | testNot {co : Core} {o : Option Ow} {m l : Str} {ms : List Mat} : Step (.test o m ms l) co (.word "not") (.notIn o m ms l) co
  | notIn {co : Core} {o : Option Ow} {m l : Str} {ms : List Mat} : Step (.notIn o m ms l) co (.word "in") (.listOpen o m ms l false) co
  | value {co : Core} {o : Option Ow} {m l : Str} {ms : List Mat} {b : Bool} (s : Str) (hz : ms.length ≤ 1000) : Step (.value o m ms l b) co (.str s) (.matched o m (ms ++ [⟨l, [s], b⟩])) co
  | listOpen {co : Core} {o : Option Ow} {m l : Str} {ms : List Mat} {b : Bool} : Step (.listOpen o m ms l b) co (.sym "(") (.item o m ms l b []) co
  | item {co : Core} {o : Option Ow} {m l : Str} {ms : List Mat} {b : Bool} {fo : List Str} (s : Str) (hz : fo.length ≤ 1000) : Step (.item o m ms l b fo) co (.str s) (.itemEnd o m ms l b (fo ++ [s])) co
  | itemMore {co : Core} {o : Option Ow} {m l : Str} {ms : List Mat} {b : Bool} {fo : List Str} : Step (.itemEnd o m ms l b fo) co (.sym ",") (.item o m ms l b fo) co
  | itemEnd {co : Core} {o : Option Ow} {m l : Str} {ms : List Mat} {b : Bool} {fo : List Str} (hf : fo.length ≤ 6) (hz : ms.length ≤ 1000) : Step (.itemEnd o m ms l b fo) co (.sym ")") (.matched o m (ms ++ [⟨l, fo, b⟩])) co
  | matchedMore {co : Core} {o : Option Ow} {m : Str} {ms : List Mat} : Step (.matched o m ms) co (.sym ",") (.label o m ms) co
  | matchedEnd {co : Core} {o : Option Ow} {m : Str} {ms : List Mat} (hm : ms.length ≤ 6) : Step (.matched o m ms) co (.sym "}") (finSel co o m ms).1 (finSel co o m ms).2
  | rangeOpen {co : Core} {o : Ow} {m : Str} {ms : List Mat} : Step (.rangeOpen o m ms) co (.sym "[") (.span o m ms) co
  | span {co : Core} {o : Ow} {m : Str} {ms : List Mat} (n : Int) (h1 : 1 ≤ n) (h2 : n ≤ 1000) (hz : co.spans ≤ 1000) : Step (.span o m ms) co (.num n) (.spanEnd o m ms n) { co with spans := co.spans + 1 }
  | spanEnd {co : Core} {o : Ow} {m : Str} {ms : List Mat} {n : Int} : Step (.spanEnd o m ms n) co (.sym "]") (.overClose o m ms n) co
  | overClose {co : Core} {o : Ow} {m : Str} {ms : List Mat} {n : Int} : Step (.overClose o m ms n) co (.sym ")") .done { co with made := some (.over o m ms n), sel := co.sel + 1 }
  | byOpen {co : Core} {a : Aw} : Step (.byOpen a) co (.sym "(") (.byName a []) co
  | byName {co : Core} {a : Aw} {fo : List Str} (s : Str) (hz : fo.length ≤ 1000) : Step (.byName a fo) co (.word s) (.byEnd a (fo ++ [s])) co
  | byMore {co : Core} {a : Aw} {fo : List Str} : Step (.byEnd a fo) co (.sym ",") (.byName a fo) co
  | byEnd {co : Core} {a : Aw} {fo : List Str} : Step (.byEnd a fo) co (.sym ")") (.aggOpen a fo) co
  | aggOpen {co : Core} {a : Aw} {fo : List Str} (hf : fo.length ≤ 6) (hz : co.stack.length ≤ 1000) : Step (.aggOpen a fo) co (.sym "(") .operand { co with stack := .agg a fo :: co.stack }
inductive Runs : Md → Core → List Tk → Md → Core → Prop where
  | nil {md : Md} {co : Core} : Runs md co [] md co
  | cons {md md1 md2 : Md} {co co1 co2 : Core} {tk : Tk} {ts : List Tk} (h : Step md co tk md1 co1) (r : Runs md1 co1 ts md2 co2) : Runs md co (tk :: ts) md2 co2
/-! ### texts as tokens: the end of a text from a place on -/
def pairCs : List (List Nat) := [[33, 61], [61, 61], [60, 61], [62, 61]]
def cs (l : List Nat) : Str := ⟨l.toArray⟩
/-- one token w at the head of the text w ++ r -/
inductive Lex1 : List Nat → List Nat → Tk → Prop where
  | word {c : Nat} {w r : List Nat} (hc : c ∈ letters) (hw : ∀ x ∈ w, x ∈ wordCs) (hl : w.length ≤ 19) (hr : ∀ x, r.head? = some x → x ∉ wordCs) : Lex1 (c :: w) r (.word (cs (c :: w)))
  | num {n : Nat} {r : List Nat} (hn : n < 1000000000000000) (hr : ∀ x, r.head? = some x → x ∉ digitCs) : Lex1 (TL.numL n) r (.num n)
  | str {w r : List Nat} (hw : ∀ x ∈ w, x ∈ wordCs) (hl : w.length ≤ 20) : Lex1 (34 :: (w ++ [34])) r (.str (cs w))
  | pair {p r : List Nat} (hp : p ∈ pairCs) : Lex1 p r (.sym (cs p))
  | sym {c : Nat} {r : List Nat} (hc : c ∈ symCs) (hr : ∀ x, r.head? = some x → [c, x] ∉ pairCs) : Lex1 [c] r (.sym (cs [c]))
inductive Lex : List Nat → List Tk → Prop where
  | nil : Lex [] []
  | blank {r : List Nat} {ts : List Tk} (h : Lex r ts) : Lex (32 :: r) ts
  | tok {w r : List Nat} {t : Tk} {ts : List Tk} (h : Lex1 w r t) (hr : Lex r ts) : Lex (w ++ r) (t :: ts)
end Wf


set_option Elab.async false
set_option linter.all false
set_option maxRecDepth 100000
set_option maxHeartbeats 4000000
namespace Wf
open PySem PySem.Spec PyProof.Rows L2
/-! ### the machine's attributes -/
structure MF where
  mode : Str
  first : Bool
  st : Addr
  made : V
  word : Str
  place : Int
  over : Str
  metric : Str
  ma : Addr
  label : Str
  inside : Bool
  fo : Addr
  span : Int
  sp : Addr
  sel : Int
  ops : Int
def MF.fs (m : MF) : List (Str × V) := [("mode", .str m.mode), ("first", .bl m.first), ("stack", .ref m.st), ("made",  m.made), ("word", .str m.word), ("place", .int m.place), ("over", .str m.over), ("metric", .str m.metric), ("matchers", .ref m.ma), ("label", .str m.label), ("inside", .bl m.inside), ("found", .ref m.fo), ("span", .int m.span), ("spans", .ref m.sp), ("selectors", .int m.sel), ("operators", .int m.ops), ("many", .bl false), ("unkind", .non)]
theorem put_mode (m : MF) (v : Str) : putF "mode" (V.str v) m.fs = ({ m with mode := v } : MF).fs := by kernel_rfl
theorem look_mode (m : MF) : m.fs.lookup ("mode" : Str) = some (V.str m.mode) := by kernel_rfl
theorem put_first (m : MF) (v : Bool) : putF "first" (V.bl v) m.fs = ({ m with first := v } : MF).fs := by kernel_rfl
theorem look_first (m : MF) : m.fs.lookup ("first" : Str) = some (V.bl m.first) := by kernel_rfl
theorem put_stack (m : MF) (v : Addr) : putF "stack" (V.ref v) m.fs = ({ m with st := v } : MF).fs := by kernel_rfl
theorem look_stack (m : MF) : m.fs.lookup ("stack" : Str) = some (V.ref m.st) := by kernel_rfl
theorem put_made (m : MF) (v : V) : putF "made" (v) m.fs = ({ m with made := v } : MF).fs := by kernel_rfl
theorem look_made (m : MF) : m.fs.lookup ("made" : Str) = some (m.made) := by kernel_rfl
theorem put_word (m : MF) (v : Str) : putF "word" (V.str v) m.fs = ({ m with word := v } : MF).fs := by kernel_rfl
theorem look_word (m : MF) : m.fs.lookup ("word" : Str) = some (V.str m.word) := by kernel_rfl
theorem put_place (m : MF) (v : Int) : putF "place" (V.int v) m.fs = ({ m with place := v } : MF).fs := by kernel_rfl
theorem look_place (m : MF) : m.fs.lookup ("place" : Str) = some (V.int m.place) := by kernel_rfl
theorem put_over (m : MF) (v : Str) : putF "over" (V.str v) m.fs = ({ m with over := v } : MF).fs := by kernel_rfl
theorem look_over (m : MF) : m.fs.lookup ("over" : Str) = some (V.str m.over) := by kernel_rfl
theorem put_metric (m : MF) (v : Str) : putF "metric" (V.str v) m.fs = ({ m with metric := v } : MF).fs := by kernel_rfl
theorem look_metric (m : MF) : m.fs.lookup ("metric" : Str) = some (V.str m.metric) := by kernel_rfl
theorem put_matchers (m : MF) (v : Addr) : putF "matchers" (V.ref v) m.fs = ({ m with ma := v } : MF).fs := by kernel_rfl
theorem look_matchers (m : MF) : m.fs.lookup ("matchers" : Str) = some (V.ref m.ma) := by kernel_rfl
theorem put_label (m : MF) (v : Str) : putF "label" (V.str v) m.fs = ({ m with label := v } : MF).fs := by kernel_rfl
theorem look_label (m : MF) : m.fs.lookup ("label" : Str) = some (V.str m.label) := by kernel_rfl
theorem put_inside (m : MF) (v : Bool) : putF "inside" (V.bl v) m.fs = ({ m with inside := v } : MF).fs := by kernel_rfl
theorem look_inside (m : MF) : m.fs.lookup ("inside" : Str) = some (V.bl m.inside) := by kernel_rfl
theorem put_found (m : MF) (v : Addr) : putF "found" (V.ref v) m.fs = ({ m with fo := v } : MF).fs := by kernel_rfl
theorem look_found (m : MF) : m.fs.lookup ("found" : Str) = some (V.ref m.fo) := by kernel_rfl
theorem put_span (m : MF) (v : Int) : putF "span" (V.int v) m.fs = ({ m with span := v } : MF).fs := by kernel_rfl
theorem look_span (m : MF) : m.fs.lookup ("span" : Str) = some (V.int m.span) := by kernel_rfl
theorem put_spans (m : MF) (v : Addr) : putF "spans" (V.ref v) m.fs = ({ m with sp := v } : MF).fs := by kernel_rfl
theorem look_spans (m : MF) : m.fs.lookup ("spans" : Str) = some (V.ref m.sp) := by kernel_rfl
theorem put_selectors (m : MF) (v : Int) : putF "selectors" (V.int v) m.fs = ({ m with sel := v } : MF).fs := by kernel_rfl
theorem look_selectors (m : MF) : m.fs.lookup ("selectors" : Str) = some (V.int m.sel) := by kernel_rfl
theorem put_operators (m : MF) (v : Int) : putF "operators" (V.int v) m.fs = ({ m with ops := v } : MF).fs := by kernel_rfl
theorem look_operators (m : MF) : m.fs.lookup ("operators" : Str) = some (V.int m.ops) := by kernel_rfl
theorem look_many (m : MF) : m.fs.lookup ("many" : Str) = some (V.bl false) := by kernel_rfl
theorem look_unkind (m : MF) : m.fs.lookup ("unkind" : Str) = some (V.non) := by kernel_rfl
theorem nol_turn (m : MF) : m.fs.lookup ("turn" : Str) = none := by kernel_rfl
theorem nol_finish_operand (m : MF) : m.fs.lookup ("finish_operand" : Str) = none := by kernel_rfl
theorem nol_begin_selector (m : MF) : m.fs.lookup ("begin_selector" : Str) = none := by kernel_rfl
theorem nol_finish_selector (m : MF) : m.fs.lookup ("finish_selector" : Str) = none := by kernel_rfl
theorem nol_finish_over (m : MF) : m.fs.lookup ("finish_over" : Str) = none := by kernel_rfl
theorem nol_add_matcher (m : MF) : m.fs.lookup ("add_matcher" : Str) = none := by kernel_rfl
theorem nol_judge (m : MF) : m.fs.lookup ("judge" : Str) = none := by kernel_rfl
theorem nol_combine (m : MF) : m.fs.lookup ("combine" : Str) = none := by kernel_rfl
theorem nol_close (m : MF) : m.fs.lookup ("close" : Str) = none := by kernel_rfl
theorem nol_open_aggregate (m : MF) : m.fs.lookup ("open_aggregate" : Str) = none := by kernel_rfl
theorem nol_end_named (m : MF) : m.fs.lookup ("end_named" : Str) = none := by kernel_rfl
theorem nol_has_open (m : MF) : m.fs.lookup ("has_open" : Str) = none := by kernel_rfl
theorem nol_can_end (m : MF) : m.fs.lookup ("can_end" : Str) = none := by kernel_rfl
theorem fs_len (m : MF) : m.fs.length < 1000 := by show 18 < 1000; decide
/-! ### a machine at p, its four lists; what stood in H0 stands -/
abbrev MC (K : PySem.W.Frag) : Addr := He.ga K "Machine"
structure MO (K : PySem.W.Frag) (H0 H : Hp) (p : Addr) (m : MF) (xst xma xfo xsp : List V) : Prop where
  same : Same H0 H
  ob : ∃ dx, H p = some (.ins (MC K) dx m.fs)
  st : H m.st = some (.lst xst)
  ma : H m.ma = some (.lst xma)
  fo : H m.fo = some (.lst xfo)
  sp : H m.sp = some (.lst xsp)
  np : H0 p = none
  nst : H0 m.st = none
  nma : H0 m.ma = none
  nfo : H0 m.fo = none
  nsp : H0 m.sp = none
  d1 : m.st ≠ m.ma
  d2 : m.st ≠ m.fo
  d3 : m.st ≠ m.sp
  d4 : m.ma ≠ m.fo
  d5 : m.ma ≠ m.sp
  d6 : m.fo ≠ m.sp
section
variable {K : PySem.W.Frag} {H0 H : Hp} {p q : Addr} {m m' : MF} {a b c d xs : List V} {o : HO} {dx : Addr}
theorem same_keep {p : Addr} {o : HO} (s : Same H0 H) (n : H0 p = none) : Same H0 (upd H p o) := fun x u e => by
  rw [upd_ne (ne_of_none e n)]
  exact s x u e
/-- the attributes alone change -/
theorem MO.set (M : MO K H0 H p m a b c d) (e1 : m'.st = m.st) (e2 : m'.ma = m.ma) (e3 : m'.fo = m.fo) (e4 : m'.sp = m.sp) : MO K H0 (upd H p (.ins (MC K) dx m'.fs)) p m' a b c d := by
  obtain ⟨dx0, hp⟩ := M.ob
  have n1 : m.st ≠ p := ne_of M.st hp (by intro z; cases z)
  have n2 : m.ma ≠ p := ne_of M.ma hp (by intro z; cases z)
  have n3 : m.fo ≠ p := ne_of M.fo hp (by intro z; cases z)
  have n4 : m.sp ≠ p := ne_of M.sp hp (by intro z; cases z)
  refine ⟨same_keep M.same M.np, ⟨dx, upd_same⟩, ?_, ?_, ?_, ?_, M.np, by rw [e1]; exact M.nst, by rw [e2]; exact M.nma, by rw [e3]; exact M.nfo, by rw [e4]; exact M.nsp, by rw [e1, e2]; exact M.d1, by rw [e1, e3]; exact M.d2, by rw [e1, e4]; exact M.d3, by rw [e2, e3]; exact M.d4, by rw [e2, e4]; exact M.d5, by rw [e3, e4]; exact M.d6⟩
  · rw [e1, upd_ne n1]; exact M.st
  · rw [e2, upd_ne n2]; exact M.ma
  · rw [e3, upd_ne n3]; exact M.fo
  · rw [e4, upd_ne n4]; exact M.sp
theorem MO.tupSet (M : MO K H0 H p m a b c d) : TupLe K H (upd H p (.ins (MC K) dx m'.fs)) := by
  obtain ⟨dx0, hp⟩ := M.ob
  exact TupLe.upd hp (by intro _ z; cases z) (by intro _ _ z; cases z)
theorem tup_lst {l : Addr} {xs ys : List V} (h : H l = some (.lst xs)) : TupLe K H (upd H l (.lst ys)) := TupLe.upd h (by intro _ z; cases z) (by intro _ _ z; cases z)
theorem tup_new (h : H q = none) : TupLe K H (upd H q o) := Same.tup (same_new h o)
/-- a new object -/
theorem MO.grow (M : MO K H0 H p m a b c d) (h : H q = none) : MO K H0 (upd H q o) p m a b c d := by
  obtain ⟨dx0, hp⟩ := M.ob
  have s := same_new h o
  exact ⟨M.same.trans s, ⟨dx0, s _ _ hp⟩, s _ _ M.st, s _ _ M.ma, s _ _ M.fo, s _ _ M.sp, M.np, M.nst, M.nma, M.nfo, M.nsp, M.d1, M.d2, M.d3, M.d4, M.d5, M.d6⟩
/-- a list is written -/
theorem MO.setSt (M : MO K H0 H p m a b c d) : MO K H0 (upd H m.st (.lst xs)) p m xs b c d := by
  obtain ⟨dx0, hp⟩ := M.ob
  exact ⟨same_keep M.same M.nst, ⟨dx0, by rw [upd_ne (ne_of hp M.st (by intro z; cases z))]; exact hp⟩, upd_same, by rw [upd_ne M.d1.symm]; exact M.ma, by rw [upd_ne M.d2.symm]; exact M.fo, by rw [upd_ne M.d3.symm]; exact M.sp, M.np, M.nst, M.nma, M.nfo, M.nsp, M.d1, M.d2, M.d3, M.d4, M.d5, M.d6⟩
theorem MO.setMa (M : MO K H0 H p m a b c d) : MO K H0 (upd H m.ma (.lst xs)) p m a xs c d := by
  obtain ⟨dx0, hp⟩ := M.ob
  exact ⟨same_keep M.same M.nma, ⟨dx0, by rw [upd_ne (ne_of hp M.ma (by intro z; cases z))]; exact hp⟩, by rw [upd_ne M.d1]; exact M.st, upd_same, by rw [upd_ne M.d4.symm]; exact M.fo, by rw [upd_ne M.d5.symm]; exact M.sp, M.np, M.nst, M.nma, M.nfo, M.nsp, M.d1, M.d2, M.d3, M.d4, M.d5, M.d6⟩
theorem MO.setFo (M : MO K H0 H p m a b c d) : MO K H0 (upd H m.fo (.lst xs)) p m a b xs d := by
  obtain ⟨dx0, hp⟩ := M.ob
  exact ⟨same_keep M.same M.nfo, ⟨dx0, by rw [upd_ne (ne_of hp M.fo (by intro z; cases z))]; exact hp⟩, by rw [upd_ne M.d2]; exact M.st, by rw [upd_ne M.d4]; exact M.ma, upd_same, by rw [upd_ne M.d6.symm]; exact M.sp, M.np, M.nst, M.nma, M.nfo, M.nsp, M.d1, M.d2, M.d3, M.d4, M.d5, M.d6⟩
theorem MO.setSp (M : MO K H0 H p m a b c d) : MO K H0 (upd H m.sp (.lst xs)) p m a b c xs := by
  obtain ⟨dx0, hp⟩ := M.ob
  exact ⟨same_keep M.same M.nsp, ⟨dx0, by rw [upd_ne (ne_of hp M.sp (by intro z; cases z))]; exact hp⟩, by rw [upd_ne M.d3]; exact M.st, by rw [upd_ne M.d5]; exact M.ma, by rw [upd_ne M.d6]; exact M.fo, upd_same, M.np, M.nst, M.nma, M.nfo, M.nsp, M.d1, M.d2, M.d3, M.d4, M.d5, M.d6⟩
/-- a new list in matchers, in found -/
theorem MO.newMa (M : MO K H0 H p m a b c d) (h : H q = none) (n : MF) (en : n = { m with ma := q }) : MO K H0 (upd (upd H q (.lst xs)) p (.ins (MC K) dx n.fs)) p n a xs c d := by
  subst en
  obtain ⟨dx0, hp⟩ := M.ob
  have s := same_new h (.lst xs)
  have n1 : m.st ≠ p := ne_of M.st hp (by intro z; cases z)
  have n3 : m.fo ≠ p := ne_of M.fo hp (by intro z; cases z)
  have n4 : m.sp ≠ p := ne_of M.sp hp (by intro z; cases z)
  have nq : p ≠ q := ne_of_none hp h
  refine ⟨same_keep (M.same.trans s) M.np, ⟨dx, upd_same⟩, ?_, ?_, ?_, ?_, M.np, M.nst, M.same.free h, M.nfo, M.nsp, ne_of_none M.st h, M.d2, M.d3, (ne_of_none M.fo h).symm, (ne_of_none M.sp h).symm, M.d6⟩
  · rw [upd_ne n1]; exact s _ _ M.st
  · rw [upd_ne nq.symm]; exact upd_same
  · rw [upd_ne n3]; exact s _ _ M.fo
  · rw [upd_ne n4]; exact s _ _ M.sp
theorem MO.newFo (M : MO K H0 H p m a b c d) (h : H q = none) (n : MF) (en : n = { m with fo := q }) : MO K H0 (upd (upd H q (.lst xs)) p (.ins (MC K) dx n.fs)) p n a b xs d := by
  subst en
  obtain ⟨dx0, hp⟩ := M.ob
  have s := same_new h (.lst xs)
  have n1 : m.st ≠ p := ne_of M.st hp (by intro z; cases z)
  have n2 : m.ma ≠ p := ne_of M.ma hp (by intro z; cases z)
  have n4 : m.sp ≠ p := ne_of M.sp hp (by intro z; cases z)
  have nq : p ≠ q := ne_of_none hp h
  refine ⟨same_keep (M.same.trans s) M.np, ⟨dx, upd_same⟩, ?_, ?_, ?_, ?_, M.np, M.nst, M.nma, M.same.free h, M.nsp, M.d1, ne_of_none M.st h, M.d3, ne_of_none M.ma h, M.d5, (ne_of_none M.sp h).symm⟩
  · rw [upd_ne n1]; exact s _ _ M.st
  · rw [upd_ne n2]; exact s _ _ M.ma
  · rw [upd_ne nq.symm]; exact upd_same
  · rw [upd_ne n4]; exact s _ _ M.sp
/-- .. and all tuples of Hb stand -/
structure MT (K : PySem.W.Frag) (H0 Hb H : Hp) (p : Addr) (m : MF) (xst xma xfo xsp : List V) : Prop where
  mo : MO K H0 H p m xst xma xfo xsp
  tu : TupLe K Hb H
variable {Hb H' : Hp} {a' b' c' d' : List V} {w : World} {mg : Str → Option Value} {f : Str} {y v : V}
theorem MT.start (M : MO K H0 H p m a b c d) : MT K H0 H H p m a b c d := ⟨M, TupLe.refl⟩
theorem MT.step (M : MT K H0 Hb H p m a b c d) (M' : MT K H0 H H' p m' a' b' c' d') : MT K H0 Hb H' p m' a' b' c' d' := ⟨M'.mo, M.tu.trans M'.tu⟩
theorem MT.grow (M : MT K H0 Hb H p m a b c d) (h : H q = none) : MT K H0 Hb (upd H q o) p m a b c d := ⟨M.mo.grow h, M.tu.trans (tup_new h)⟩
theorem MT.setSt (M : MT K H0 Hb H p m a b c d) : MT K H0 Hb (upd H m.st (.lst xs)) p m xs b c d := ⟨M.mo.setSt, M.tu.trans (tup_lst M.mo.st)⟩
theorem MT.setMa (M : MT K H0 Hb H p m a b c d) : MT K H0 Hb (upd H m.ma (.lst xs)) p m a xs c d := ⟨M.mo.setMa, M.tu.trans (tup_lst M.mo.ma)⟩
theorem MT.setFo (M : MT K H0 Hb H p m a b c d) : MT K H0 Hb (upd H m.fo (.lst xs)) p m a b xs d := ⟨M.mo.setFo, M.tu.trans (tup_lst M.mo.fo)⟩
theorem MT.setSp (M : MT K H0 Hb H p m a b c d) : MT K H0 Hb (upd H m.sp (.lst xs)) p m a b c xs := ⟨M.mo.setSp, M.tu.trans (tup_lst M.mo.sp)⟩
theorem g_fld (M : MT K H0 Hb H p m a b c d) (cl : Cls K (MC K)) (na : NoAttr K (MC K) f) (l : m.fs.lookup f = some v) {R : V → Prop} (h : R v) :
    ∃ q C dx fs v, V.ref p = .ref q ∧ H q = some (.ins C dx fs) ∧ Cls K C ∧ NoAttr K C f ∧ fs.lookup f = some v ∧ R v := by
  obtain ⟨dx, hp⟩ := M.mo.ob
  exact ⟨p, _, dx, _, v, rfl, hp, cl, na, l, h⟩
theorem s_fld (M : MT K H0 Hb H p m a b c d) (cl : Cls K (MC K)) (na : NoAttr K (MC K) f) (e : putF f y m.fs = m'.fs) (e1 : m'.st = m.st) (e2 : m'.ma = m.ma) (e3 : m'.fo = m.fo) (e4 : m'.sp = m.sp) {R : Hp → Prop}
    (h : ∀ H', MT K H0 Hb H' p m' a b c d → R H') : ∃ q C dx fs, V.ref p = .ref q ∧ H q = some (.ins C dx fs) ∧ Cls K C ∧ NoAttr K C f ∧ fs.length < 1000 ∧ R (upd H q (.ins C dx (putF f y fs))) := by
  obtain ⟨dx, hp⟩ := M.mo.ob
  refine ⟨p, _, dx, _, rfl, hp, cl, na, fs_len m, ?_⟩
  rw [e]
  exact h _ ⟨M.mo.set e1 e2 e3 e4, M.tu.trans M.mo.tupSet⟩
theorem g_meth (M : MT K H0 Hb H p m a b c d) (l : m.fs.lookup f = none) {R : Prop} (h : R) : ∃ q dx fs, V.ref p = .ref q ∧ H q = some (.ins (MC K) dx fs) ∧ fs.lookup f = none ∧ R := by
  obtain ⟨dx, hp⟩ := M.mo.ob
  exact ⟨p, dx, _, rfl, hp, l, h⟩
theorem s_matchers (T : Txt w K mg) (M : MT K H0 Hb H p m a b c d) (hq : H q = none) {R : Hp → Prop} (h : ∀ H', MT K H0 Hb H' p { m with ma := q } a xs c d → R H') :
    ∃ r C dx fs, V.ref p = .ref r ∧ upd H q (.lst xs) r = some (.ins C dx fs) ∧ Cls K C ∧ NoAttr K C "matchers" ∧ fs.length < 1000 ∧ R (upd (upd H q (.lst xs)) r (.ins C dx (putF "matchers" (.ref q) fs))) := by
  obtain ⟨dx, hp⟩ := M.mo.ob
  have hp' : upd H q (.lst xs) p = some (.ins (MC K) dx m.fs) := by rw [upd_ne (ne_of_none hp hq)]; exact hp
  refine ⟨p, _, dx, _, rfl, hp', T.cl, T.n_matchers, fs_len m, ?_⟩
  rw [put_matchers]
  exact h _ ⟨M.mo.newMa hq _ rfl, (M.tu.trans (tup_new hq)).trans (TupLe.upd hp' (by intro _ z; cases z) (by intro _ _ z; cases z))⟩
theorem s_found (T : Txt w K mg) (M : MT K H0 Hb H p m a b c d) (hq : H q = none) {R : Hp → Prop} (h : ∀ H', MT K H0 Hb H' p { m with fo := q } a b xs d → R H') :
    ∃ r C dx fs, V.ref p = .ref r ∧ upd H q (.lst xs) r = some (.ins C dx fs) ∧ Cls K C ∧ NoAttr K C "found" ∧ fs.length < 1000 ∧ R (upd (upd H q (.lst xs)) r (.ins C dx (putF "found" (.ref q) fs))) := by
  obtain ⟨dx, hp⟩ := M.mo.ob
  have hp' : upd H q (.lst xs) p = some (.ins (MC K) dx m.fs) := by rw [upd_ne (ne_of_none hp hq)]; exact hp
  refine ⟨p, _, dx, _, rfl, hp', T.cl, T.n_found, fs_len m, ?_⟩
  rw [put_found]
  exact h _ ⟨M.mo.newFo hq _ rfl, (M.tu.trans (tup_new hq)).trans (TupLe.upd hp' (by intro _ z; cases z) (by intro _ _ z; cases z))⟩
theorem g_mode (T : Txt w K mg) (M : MT K H0 Hb H p m a b c d) {R : V → Prop} (h : R (.str m.mode)) : ∃ q C dx fs v, V.ref p = .ref q ∧ H q = some (.ins C dx fs) ∧ Cls K C ∧ NoAttr K C "mode" ∧ fs.lookup ("mode" : Str) = some v ∧ R v := g_fld M T.cl T.n_mode (look_mode m) h
theorem s_mode (T : Txt w K mg) (M : MT K H0 Hb H p m a b c d) {x : Str} {R : Hp → Prop} (h : ∀ H', MT K H0 Hb H' p { m with mode := x } a b c d → R H') : ∃ q C dx fs, V.ref p = .ref q ∧ H q = some (.ins C dx fs) ∧ Cls K C ∧ NoAttr K C "mode" ∧ fs.length < 1000 ∧ R (upd H q (.ins C dx (putF "mode" (.str x) fs))) := s_fld M T.cl T.n_mode (put_mode m x) rfl rfl rfl rfl h
theorem g_first (T : Txt w K mg) (M : MT K H0 Hb H p m a b c d) {R : V → Prop} (h : R (.bl m.first)) : ∃ q C dx fs v, V.ref p = .ref q ∧ H q = some (.ins C dx fs) ∧ Cls K C ∧ NoAttr K C "first" ∧ fs.lookup ("first" : Str) = some v ∧ R v := g_fld M T.cl T.n_first (look_first m) h
theorem s_first (T : Txt w K mg) (M : MT K H0 Hb H p m a b c d) {x : Bool} {R : Hp → Prop} (h : ∀ H', MT K H0 Hb H' p { m with first := x } a b c d → R H') : ∃ q C dx fs, V.ref p = .ref q ∧ H q = some (.ins C dx fs) ∧ Cls K C ∧ NoAttr K C "first" ∧ fs.length < 1000 ∧ R (upd H q (.ins C dx (putF "first" (.bl x) fs))) := s_fld M T.cl T.n_first (put_first m x) rfl rfl rfl rfl h
theorem g_stack (T : Txt w K mg) (M : MT K H0 Hb H p m a b c d) {R : V → Prop} (h : R (.ref m.st)) : ∃ q C dx fs v, V.ref p = .ref q ∧ H q = some (.ins C dx fs) ∧ Cls K C ∧ NoAttr K C "stack" ∧ fs.lookup ("stack" : Str) = some v ∧ R v := g_fld M T.cl T.n_stack (look_stack m) h
theorem g_made (T : Txt w K mg) (M : MT K H0 Hb H p m a b c d) {R : V → Prop} (h : R ( m.made)) : ∃ q C dx fs v, V.ref p = .ref q ∧ H q = some (.ins C dx fs) ∧ Cls K C ∧ NoAttr K C "made" ∧ fs.lookup ("made" : Str) = some v ∧ R v := g_fld M T.cl T.n_made (look_made m) h
theorem s_made (T : Txt w K mg) (M : MT K H0 Hb H p m a b c d) {x : V} {R : Hp → Prop} (h : ∀ H', MT K H0 Hb H' p { m with made := x } a b c d → R H') : ∃ q C dx fs, V.ref p = .ref q ∧ H q = some (.ins C dx fs) ∧ Cls K C ∧ NoAttr K C "made" ∧ fs.length < 1000 ∧ R (upd H q (.ins C dx (putF "made" ( x) fs))) := s_fld M T.cl T.n_made (put_made m x) rfl rfl rfl rfl h
theorem g_word (T : Txt w K mg) (M : MT K H0 Hb H p m a b c d) {R : V → Prop} (h : R (.str m.word)) : ∃ q C dx fs v, V.ref p = .ref q ∧ H q = some (.ins C dx fs) ∧ Cls K C ∧ NoAttr K C "word" ∧ fs.lookup ("word" : Str) = some v ∧ R v := g_fld M T.cl T.n_word (look_word m) h
theorem s_word (T : Txt w K mg) (M : MT K H0 Hb H p m a b c d) {x : Str} {R : Hp → Prop} (h : ∀ H', MT K H0 Hb H' p { m with word := x } a b c d → R H') : ∃ q C dx fs, V.ref p = .ref q ∧ H q = some (.ins C dx fs) ∧ Cls K C ∧ NoAttr K C "word" ∧ fs.length < 1000 ∧ R (upd H q (.ins C dx (putF "word" (.str x) fs))) := s_fld M T.cl T.n_word (put_word m x) rfl rfl rfl rfl h
theorem g_place (T : Txt w K mg) (M : MT K H0 Hb H p m a b c d) {R : V → Prop} (h : R (.int m.place)) : ∃ q C dx fs v, V.ref p = .ref q ∧ H q = some (.ins C dx fs) ∧ Cls K C ∧ NoAttr K C "place" ∧ fs.lookup ("place" : Str) = some v ∧ R v := g_fld M T.cl T.n_place (look_place m) h
theorem s_place (T : Txt w K mg) (M : MT K H0 Hb H p m a b c d) {x : Int} {R : Hp → Prop} (h : ∀ H', MT K H0 Hb H' p { m with place := x } a b c d → R H') : ∃ q C dx fs, V.ref p = .ref q ∧ H q = some (.ins C dx fs) ∧ Cls K C ∧ NoAttr K C "place" ∧ fs.length < 1000 ∧ R (upd H q (.ins C dx (putF "place" (.int x) fs))) := s_fld M T.cl T.n_place (put_place m x) rfl rfl rfl rfl h
theorem g_over (T : Txt w K mg) (M : MT K H0 Hb H p m a b c d) {R : V → Prop} (h : R (.str m.over)) : ∃ q C dx fs v, V.ref p = .ref q ∧ H q = some (.ins C dx fs) ∧ Cls K C ∧ NoAttr K C "over" ∧ fs.lookup ("over" : Str) = some v ∧ R v := g_fld M T.cl T.n_over (look_over m) h
theorem s_over (T : Txt w K mg) (M : MT K H0 Hb H p m a b c d) {x : Str} {R : Hp → Prop} (h : ∀ H', MT K H0 Hb H' p { m with over := x } a b c d → R H') : ∃ q C dx fs, V.ref p = .ref q ∧ H q = some (.ins C dx fs) ∧ Cls K C ∧ NoAttr K C "over" ∧ fs.length < 1000 ∧ R (upd H q (.ins C dx (putF "over" (.str x) fs))) := s_fld M T.cl T.n_over (put_over m x) rfl rfl rfl rfl h
theorem g_metric (T : Txt w K mg) (M : MT K H0 Hb H p m a b c d) {R : V → Prop} (h : R (.str m.metric)) : ∃ q C dx fs v, V.ref p = .ref q ∧ H q = some (.ins C dx fs) ∧ Cls K C ∧ NoAttr K C "metric" ∧ fs.lookup ("metric" : Str) = some v ∧ R v := g_fld M T.cl T.n_metric (look_metric m) h
theorem s_metric (T : Txt w K mg) (M : MT K H0 Hb H p m a b c d) {x : Str} {R : Hp → Prop} (h : ∀ H', MT K H0 Hb H' p { m with metric := x } a b c d → R H') : ∃ q C dx fs, V.ref p = .ref q ∧ H q = some (.ins C dx fs) ∧ Cls K C ∧ NoAttr K C "metric" ∧ fs.length < 1000 ∧ R (upd H q (.ins C dx (putF "metric" (.str x) fs))) := s_fld M T.cl T.n_metric (put_metric m x) rfl rfl rfl rfl h
theorem g_matchers (T : Txt w K mg) (M : MT K H0 Hb H p m a b c d) {R : V → Prop} (h : R (.ref m.ma)) : ∃ q C dx fs v, V.ref p = .ref q ∧ H q = some (.ins C dx fs) ∧ Cls K C ∧ NoAttr K C "matchers" ∧ fs.lookup ("matchers" : Str) = some v ∧ R v := g_fld M T.cl T.n_matchers (look_matchers m) h
theorem g_label (T : Txt w K mg) (M : MT K H0 Hb H p m a b c d) {R : V → Prop} (h : R (.str m.label)) : ∃ q C dx fs v, V.ref p = .ref q ∧ H q = some (.ins C dx fs) ∧ Cls K C ∧ NoAttr K C "label" ∧ fs.lookup ("label" : Str) = some v ∧ R v := g_fld M T.cl T.n_label (look_label m) h
theorem s_label (T : Txt w K mg) (M : MT K H0 Hb H p m a b c d) {x : Str} {R : Hp → Prop} (h : ∀ H', MT K H0 Hb H' p { m with label := x } a b c d → R H') : ∃ q C dx fs, V.ref p = .ref q ∧ H q = some (.ins C dx fs) ∧ Cls K C ∧ NoAttr K C "label" ∧ fs.length < 1000 ∧ R (upd H q (.ins C dx (putF "label" (.str x) fs))) := s_fld M T.cl T.n_label (put_label m x) rfl rfl rfl rfl h
theorem g_inside (T : Txt w K mg) (M : MT K H0 Hb H p m a b c d) {R : V → Prop} (h : R (.bl m.inside)) : ∃ q C dx fs v, V.ref p = .ref q ∧ H q = some (.ins C dx fs) ∧ Cls K C ∧ NoAttr K C "inside" ∧ fs.lookup ("inside" : Str) = some v ∧ R v := g_fld M T.cl T.n_inside (look_inside m) h
theorem s_inside (T : Txt w K mg) (M : MT K H0 Hb H p m a b c d) {x : Bool} {R : Hp → Prop} (h : ∀ H', MT K H0 Hb H' p { m with inside := x } a b c d → R H') : ∃ q C dx fs, V.ref p = .ref q ∧ H q = some (.ins C dx fs) ∧ Cls K C ∧ NoAttr K C "inside" ∧ fs.length < 1000 ∧ R (upd H q (.ins C dx (putF "inside" (.bl x) fs))) := s_fld M T.cl T.n_inside (put_inside m x) rfl rfl rfl rfl h
theorem g_found (T : Txt w K mg) (M : MT K H0 Hb H p m a b c d) {R : V → Prop} (h : R (.ref m.fo)) : ∃ q C dx fs v, V.ref p = .ref q ∧ H q = some (.ins C dx fs) ∧ Cls K C ∧ NoAttr K C "found" ∧ fs.lookup ("found" : Str) = some v ∧ R v := g_fld M T.cl T.n_found (look_found m) h
theorem g_span (T : Txt w K mg) (M : MT K H0 Hb H p m a b c d) {R : V → Prop} (h : R (.int m.span)) : ∃ q C dx fs v, V.ref p = .ref q ∧ H q = some (.ins C dx fs) ∧ Cls K C ∧ NoAttr K C "span" ∧ fs.lookup ("span" : Str) = some v ∧ R v := g_fld M T.cl T.n_span (look_span m) h
theorem s_span (T : Txt w K mg) (M : MT K H0 Hb H p m a b c d) {x : Int} {R : Hp → Prop} (h : ∀ H', MT K H0 Hb H' p { m with span := x } a b c d → R H') : ∃ q C dx fs, V.ref p = .ref q ∧ H q = some (.ins C dx fs) ∧ Cls K C ∧ NoAttr K C "span" ∧ fs.length < 1000 ∧ R (upd H q (.ins C dx (putF "span" (.int x) fs))) := s_fld M T.cl T.n_span (put_span m x) rfl rfl rfl rfl h
theorem g_spans (T : Txt w K mg) (M : MT K H0 Hb H p m a b c d) {R : V → Prop} (h : R (.ref m.sp)) : ∃ q C dx fs v, V.ref p = .ref q ∧ H q = some (.ins C dx fs) ∧ Cls K C ∧ NoAttr K C "spans" ∧ fs.lookup ("spans" : Str) = some v ∧ R v := g_fld M T.cl T.n_spans (look_spans m) h
theorem g_selectors (T : Txt w K mg) (M : MT K H0 Hb H p m a b c d) {R : V → Prop} (h : R (.int m.sel)) : ∃ q C dx fs v, V.ref p = .ref q ∧ H q = some (.ins C dx fs) ∧ Cls K C ∧ NoAttr K C "selectors" ∧ fs.lookup ("selectors" : Str) = some v ∧ R v := g_fld M T.cl T.n_selectors (look_selectors m) h
theorem s_selectors (T : Txt w K mg) (M : MT K H0 Hb H p m a b c d) {x : Int} {R : Hp → Prop} (h : ∀ H', MT K H0 Hb H' p { m with sel := x } a b c d → R H') : ∃ q C dx fs, V.ref p = .ref q ∧ H q = some (.ins C dx fs) ∧ Cls K C ∧ NoAttr K C "selectors" ∧ fs.length < 1000 ∧ R (upd H q (.ins C dx (putF "selectors" (.int x) fs))) := s_fld M T.cl T.n_selectors (put_selectors m x) rfl rfl rfl rfl h
theorem g_operators (T : Txt w K mg) (M : MT K H0 Hb H p m a b c d) {R : V → Prop} (h : R (.int m.ops)) : ∃ q C dx fs v, V.ref p = .ref q ∧ H q = some (.ins C dx fs) ∧ Cls K C ∧ NoAttr K C "operators" ∧ fs.lookup ("operators" : Str) = some v ∧ R v := g_fld M T.cl T.n_operators (look_operators m) h
theorem s_operators (T : Txt w K mg) (M : MT K H0 Hb H p m a b c d) {x : Int} {R : Hp → Prop} (h : ∀ H', MT K H0 Hb H' p { m with ops := x } a b c d → R H') : ∃ q C dx fs, V.ref p = .ref q ∧ H q = some (.ins C dx fs) ∧ Cls K C ∧ NoAttr K C "operators" ∧ fs.length < 1000 ∧ R (upd H q (.ins C dx (putF "operators" (.int x) fs))) := s_fld M T.cl T.n_operators (put_operators m x) rfl rfl rfl rfl h
theorem g_many (T : Txt w K mg) (M : MT K H0 Hb H p m a b c d) {R : V → Prop} (h : R (.bl false)) : ∃ q C dx fs v, V.ref p = .ref q ∧ H q = some (.ins C dx fs) ∧ Cls K C ∧ NoAttr K C "many" ∧ fs.lookup ("many" : Str) = some v ∧ R v := g_fld M T.cl T.n_many (look_many m) h
theorem g_unkind (T : Txt w K mg) (M : MT K H0 Hb H p m a b c d) {R : V → Prop} (h : R .non) : ∃ q C dx fs v, V.ref p = .ref q ∧ H q = some (.ins C dx fs) ∧ Cls K C ∧ NoAttr K C "unkind" ∧ fs.lookup ("unkind" : Str) = some v ∧ R v := g_fld M T.cl T.n_unkind (look_unkind m) h
end
end Wf


set_option Elab.async false
set_option linter.all false
set_option maxRecDepth 100000
set_option maxHeartbeats 4000000
namespace Wf
open PySem PySem.Spec PyProof.Rows L2
open C8 (pe_gc)
local macro_rules | `(tactic| walk_at "w1") => `(tactic| first
  | with_reducible refine i_seq ?_
  | with_reducible refine i_asg ?_
  | with_reducible refine i_gname ?_
  | ((with_reducible refine' i_var ?ivar ?imain); (case ivar => exact rfl))
  | with_reducible refine i_c ?_
  | with_reducible refine i_op ?_
  | with_reducible refine i_if ?_
  | with_reducible refine i_test ?_
  | with_reducible refine i_tB ?_
  | with_reducible refine i_bl ?_
  | with_reducible refine i_ret ?_
  | with_reducible refine i_retN ?_
  | with_reducible refine i_drop ?_
  | with_reducible refine i_next ?_
  | with_reducible refine i_cons ?_
  | with_reducible refine i_nil ?_
  | with_reducible refine i_cb ?_
  | with_reducible refine i_tup ?_
  | with_reducible refine i_lst ?_
  | with_reducible refine i_fld ?_
  | with_reducible refine i_sfld ?_
  | with_reducible refine i_call ?_
  | with_reducible refine i_meth ?_
  | with_reducible refine i_and ?_
  | with_reducible refine i_or ?_
  | with_reducible refine i_not ?_
  | with_reducible refine i_andV ?_
  | with_reducible refine i_orV ?_
  | with_reducible refine i_notV ?_
  | with_reducible refine i_ifV ?_
  | with_reducible refine i_un ?_
  | with_reducible refine i_neg ?_
  | with_reducible refine i_gcons ?_
  | with_reducible refine i_sl ?_
  | with_reducible refine i_part ?_
  | with_reducible refine i_nopart ?_
  | with_reducible refine i_int ?_
  | with_reducible refine i_inS ?_
  | with_reducible refine i_notInS ?_
  | with_reducible refine i_tyS ?_
  | with_reducible refine i_forL ?_
  | with_reducible refine i_forT ?_
  | with_reducible refine i_forR1 ?_
  | with_reducible refine i_bm ?_
  | with_reducible refine i_bm0 ?_
  | with_reducible refine i_gnil ?_
  | with_reducible refine i_rI0 ?_
  | with_reducible refine i_rIsN ?_
  | with_reducible refine i_rNotN ?_
  | with_reducible refine i_rInt ?_
  | ((with_reducible refine i_rEq ?isc ?imain); (case isc => exact rfl))
  | ((with_reducible refine i_rNe ?isc ?imain); (case isc => exact rfl))
  | with_reducible refine i_T rfl ?_
  | with_reducible refine i_F rfl ?_
  | ((refine' i_T ?icnd ?imain); (case icnd => decide +kernel))
  | ((refine' i_F ?icnd ?imain); (case icnd => decide +kernel))
  | fail)
local macro_rules | `(tactic| walk_at "w") => `(tactic| (repeat' walk_at "w1"))
local macro_rules | `(tactic| walk_at "w0") => `(tactic| (simp only [cxOf, L2.start, List.map_cons, List.map_nil, List.length_cons, List.length_nil, Nat.reduceAdd, Nat.reduceSub, Nat.zero_add, List.replicate_zero, List.replicate_succ, List.cons_append, List.nil_append]))
local macro_rules | `(tactic| walk_at "tk") => `(tactic| (simp only [Tk.sign, Tk.val]))
local macro_rules | `(tactic| walk_at "c") => `(tactic| (dsimp only [List.set_cons_zero, List.set_cons_succ, List.cons_append, List.nil_append]))

local macro_rules | `(tactic| walk_at "m1") => `(tactic| first
  | walk_at "w1"
  | ((with_reducible refine' g_mode ?T ?M ?h); (case T => assumption); (case M => assumption))
  | ((with_reducible refine' g_first ?T ?M ?h); (case T => assumption); (case M => assumption))
  | ((with_reducible refine' g_stack ?T ?M ?h); (case T => assumption); (case M => assumption))
  | ((with_reducible refine' g_made ?T ?M ?h); (case T => assumption); (case M => assumption))
  | ((with_reducible refine' g_word ?T ?M ?h); (case T => assumption); (case M => assumption))
  | ((with_reducible refine' g_place ?T ?M ?h); (case T => assumption); (case M => assumption))
  | ((with_reducible refine' g_over ?T ?M ?h); (case T => assumption); (case M => assumption))
  | ((with_reducible refine' g_metric ?T ?M ?h); (case T => assumption); (case M => assumption))
  | ((with_reducible refine' g_matchers ?T ?M ?h); (case T => assumption); (case M => assumption))
  | ((with_reducible refine' g_label ?T ?M ?h); (case T => assumption); (case M => assumption))
  | ((with_reducible refine' g_inside ?T ?M ?h); (case T => assumption); (case M => assumption))
  | ((with_reducible refine' g_found ?T ?M ?h); (case T => assumption); (case M => assumption))
  | ((with_reducible refine' g_span ?T ?M ?h); (case T => assumption); (case M => assumption))
  | ((with_reducible refine' g_spans ?T ?M ?h); (case T => assumption); (case M => assumption))
  | ((with_reducible refine' g_selectors ?T ?M ?h); (case T => assumption); (case M => assumption))
  | ((with_reducible refine' g_operators ?T ?M ?h); (case T => assumption); (case M => assumption))
  | ((with_reducible refine' g_many ?T ?M ?h); (case T => assumption); (case M => assumption))
  | ((with_reducible refine' g_unkind ?T ?M ?h); (case T => assumption); (case M => assumption))
  | ((with_reducible refine' s_mode ?T ?M ?h); (case T => assumption); (case M => assumption); intro _ _)
  | ((with_reducible refine' s_first ?T ?M ?h); (case T => assumption); (case M => assumption); intro _ _)
  | ((with_reducible refine' s_made ?T ?M ?h); (case T => assumption); (case M => assumption); intro _ _)
  | ((with_reducible refine' s_word ?T ?M ?h); (case T => assumption); (case M => assumption); intro _ _)
  | ((with_reducible refine' s_place ?T ?M ?h); (case T => assumption); (case M => assumption); intro _ _)
  | ((with_reducible refine' s_over ?T ?M ?h); (case T => assumption); (case M => assumption); intro _ _)
  | ((with_reducible refine' s_metric ?T ?M ?h); (case T => assumption); (case M => assumption); intro _ _)
  | ((with_reducible refine' s_label ?T ?M ?h); (case T => assumption); (case M => assumption); intro _ _)
  | ((with_reducible refine' s_inside ?T ?M ?h); (case T => assumption); (case M => assumption); intro _ _)
  | ((with_reducible refine' s_span ?T ?M ?h); (case T => assumption); (case M => assumption); intro _ _)
  | ((with_reducible refine' s_selectors ?T ?M ?h); (case T => assumption); (case M => assumption); intro _ _)
  | ((with_reducible refine' s_operators ?T ?M ?h); (case T => assumption); (case M => assumption); intro _ _)
  | ((with_reducible refine' g_meth ?M ?l ?h); (case M => assumption); (case l => first | exact nol_turn _ | exact nol_finish_operand _ | exact nol_begin_selector _ | exact nol_finish_selector _ | exact nol_finish_over _ | exact nol_add_matcher _ | exact nol_judge _ | exact nol_combine _ | exact nol_close _ | exact nol_open_aggregate _ | exact nol_end_named _ | exact nol_has_open _ | exact nol_can_end _))
  | fail)
local macro_rules | `(tactic| walk_at "m") => `(tactic| (repeat' walk_at "m1"))

section
variable {P : Program} {w : World} {K : PySem.W.Frag} {mg : Str → Option Value} {base : Heap} {H0 Hb H : Hp} {p : Addr} {m : MF} {a b c d : List V}
theorem le_line {n : Nat} (h : n ≤ 100000) : n ≤ sizeLine := Nat.le_trans h (by decide)
theorem lt_line {n : Nat} (h : n < 100000) : n < sizeLine := Nat.lt_of_lt_of_le h (by decide)
/-! ### the methods' promises -/
def spTurn (K : PySem.W.Frag) : Sp := fun vs H Q _ => ∃ (H0 : Hp) (p : Addr) (m : MF) (a b c d : List V) (s : Str), vs = [.ref p, .str s] ∧ MO K H0 H p m a b c d ∧ ∀ H', MT K H0 H H' p { m with mode := s } a b c d → Q (.bl true) H'
theorem c_turn (M : MT K H0 Hb H p m a b c d) {s : Str} {R : VK} {E : XK} (h : ∀ H', MT K H0 Hb H' p { m with mode := s } a b c d → R (.bl true) H') : spTurn K [.ref p, .str s] H R E :=
  ⟨H0, p, m, a, b, c, d, s, rfl, M.mo, fun H' M' => h H' (M.step M')⟩
theorem sc_M_turn : FnScope (["self", "mode"] : List Str) (["self", "mode"] : List Str) (defScope s_M_turn) := ⟨rfl, rfl, rfl, by decide +kernel, rfl, by decide +kernel, by decide +kernel⟩
theorem k_turn (T : Txt w K mg) : Met P w K mg base 1 "turn" (spTurn K) := by
  obtain ⟨fd, F⟩ := T.d_M_turn
  refine ⟨_, fd, ["self", "mode"], T.cl, T.m_turn, fn_ok F sc_M_turn (fun vs H Q E h => ?_) (fun cdv A outer s H vs Q E hr h => ?_), F.bindsN (fun _ _ _ _ _ _ us hl => match us, hl with | [_, _], _ => rfl)⟩
  · obtain ⟨_, _, _, _, _, _, _, _, rfl, _⟩ := h
    rfl
  obtain ⟨H0, p, m, a, b, c, d, s, rfl, M, q⟩ := h
  refine ⟨_, (pss_cons (ps_fld (pv 0) (pv 1) rfl)
    (pss_one (ps_ret pe_bl))), ?_⟩
  have M0 := MT.start M
  walk_at "w0"
  walk_at "m"
  exact q _ (by assumption)
/-! finish_operand: made := (expression, kind), mode done -/
def spFinOp (K : PySem.W.Frag) : Sp := fun vs H Q _ => ∃ (H0 : Hp) (p : Addr) (m : MF) (a b c d : List V) (x k : V), vs = [.ref p, x, k] ∧ MO K H0 H p m a b c d ∧
  ∀ H' t, SqT K H' t [x, k] → MT K H0 H H' p { m with made := .ref t, mode := "done" } a b c d → Q (.bl true) H'
theorem c_finOp (M : MT K H0 Hb H p m a b c d) {x k : V} {R : VK} {E : XK} (h : ∀ H' t, SqT K H' t [x, k] → TupLe K H H' → MT K H0 Hb H' p { m with made := .ref t, mode := "done" } a b c d → R (.bl true) H') : spFinOp K [.ref p, x, k] H R E :=
  ⟨H0, p, m, a, b, c, d, x, k, rfl, M.mo, fun H' t ht M' => h H' t ht M'.tu (M.step M')⟩
theorem sc_M_finish_operand : FnScope (["self", "expression", "kind"] : List Str) (["self", "expression", "kind"] : List Str) (defScope s_M_finish_operand) := ⟨rfl, rfl, rfl, by decide +kernel, rfl, by decide +kernel, by decide +kernel⟩
theorem k_finish_operand (T : Txt w K mg) : Met P w K mg base 2 "finish_operand" (spFinOp K) := by
  have G_turn := k_turn (P := P) (base := base) T
  obtain ⟨fd, F⟩ := T.d_M_finish_operand
  refine ⟨_, fd, ["self", "expression", "kind"], T.cl, T.m_finish_operand, fn_ok F sc_M_finish_operand (fun vs H Q E h => ?_) (fun cdv A outer s H vs Q E hr h => ?_), F.bindsN (fun _ _ _ _ _ _ us hl => match us, hl with | [_, _, _], _ => rfl)⟩
  · obtain ⟨_, _, _, _, _, _, _, _, _, rfl, _⟩ := h
    rfl
  obtain ⟨H0, p, m, a, b, c, d, x, k, rfl, M, q⟩ := h
  refine ⟨_, (pss_cons (ps_fld (pv 0) (pe_tup (pa_cons (pv 1) (pa_cons (pv 2) pa_nil))) rfl)
    (pss_one (ps_ret (pe_mt G_turn hr (by omega) (pv 0) (pa_cons pe_str pa_nil))))), ?_⟩
  have M0 := MT.start M
  walk_at "w0"
  walk_at "m"
  refine ⟨le_line (by decide : 2 ≤ 100000), fun t ht => ?_⟩
  have M1 := MT.start (M.grow (o := .tup [x, k]) ht)
  walk_at "m"
  refine c_turn (by assumption) fun H' M' => ?_
  exact q H' t (M'.tu _ _ (SqT.of upd_same)) ⟨M'.mo, (tup_new ht).trans M'.tu⟩
/-! begin_selector -/
def spBegin (K : PySem.W.Frag) : Sp := fun vs H Q _ => ∃ (H0 : Hp) (p : Addr) (m : MF) (a b c d : List V) (o me : Str), vs = [.ref p, .str o, .str me] ∧ MO K H0 H p m a b c d ∧
  ∀ H' q, MT K H0 H H' p { m with over := o, metric := me, ma := q } a [] c d → Q .non H'
theorem c_begin (M : MT K H0 Hb H p m a b c d) {o me : Str} {R : VK} {E : XK} (h : ∀ H' q, TupLe K H H' → MT K H0 Hb H' p { m with over := o, metric := me, ma := q } a [] c d → R .non H') : spBegin K [.ref p, .str o, .str me] H R E :=
  ⟨H0, p, m, a, b, c, d, o, me, rfl, M.mo, fun H' q M' => h H' q M'.tu (M.step M')⟩
theorem sc_M_begin_selector : FnScope (["self", "over", "metric"] : List Str) (["self", "over", "metric"] : List Str) (defScope s_M_begin_selector) := ⟨rfl, rfl, rfl, by decide +kernel, rfl, by decide +kernel, by decide +kernel⟩
theorem k_begin_selector (T : Txt w K mg) : Met P w K mg base 1 "begin_selector" (spBegin K) := by
  obtain ⟨fd, F⟩ := T.d_M_begin_selector
  refine ⟨_, fd, ["self", "over", "metric"], T.cl, T.m_begin_selector, fn_ok F sc_M_begin_selector (fun vs H Q E h => ?_) (fun cdv A outer s H vs Q E hr h => ?_), F.bindsN (fun _ _ _ _ _ _ us hl => match us, hl with | [_, _, _], _ => rfl)⟩
  · obtain ⟨_, _, _, _, _, _, _, _, _, rfl, _⟩ := h
    rfl
  obtain ⟨H0, p, m, a, b, c, d, o, me, rfl, M, q⟩ := h
  refine ⟨_, (pss_cons (ps_fld (pv 0) (pv 1) rfl)
    (pss_cons (ps_fld (pv 0) (pv 2) rfl)
    (pss_one (ps_fld (pv 0) (pe_lst pa_nil) rfl)))), ?_⟩
  have M0 := MT.start M
  walk_at "w0"
  walk_at "m"
  refine ⟨Nat.zero_le _, fun t ht => ?_⟩
  walk_at "m"
  refine s_matchers T (by assumption) ht fun H' M' => ?_
  walk_at "m"
  exact q H' t M'
/-! finish_selector -/
def spFinSel (K : PySem.W.Frag) : Sp := fun vs H Q _ => ∃ (H0 : Hp) (p : Addr) (m : MF) (a b c d : List V), vs = [.ref p] ∧ MO K H0 H p m a b c d ∧ b.length ≤ 6 ∧
  (m.over ≠ "" → ∀ H', MT K H0 H H' p { m with mode := "range_open" } a b c d → Q (.bl true) H') ∧
  (m.over = "" → ∀ H' t u s, SqT K H' s b → SqT K H' u [.str "latest", .str m.metric, .ref s] → SqT K H' t [.ref u, .str "vector"] → MT K H0 H H' p { m with sel := m.sel + 1, made := .ref t, mode := "done" } a b c d → Q (.bl true) H')
theorem sc_M_finish_selector : FnScope (["self"] : List Str) (["self"] : List Str) (defScope s_M_finish_selector) := ⟨rfl, rfl, rfl, by decide +kernel, rfl, by decide +kernel, by decide +kernel⟩
theorem k_finish_selector (T : Txt w K mg) : Met P w K mg base 3 "finish_selector" (spFinSel K) := by
  have G_turn := k_turn (P := P) (base := base) T
  have G_finish_operand := k_finish_operand (P := P) (base := base) T
  obtain ⟨fd, F⟩ := T.d_M_finish_selector
  refine ⟨_, fd, ["self"], T.cl, T.m_finish_selector, fn_ok F sc_M_finish_selector (fun vs H Q E h => ?_) (fun cdv A outer s H vs Q E hr h => ?_), F.bindsN (fun _ _ _ _ _ _ us hl => match us, hl with | [_], _ => rfl)⟩
  · obtain ⟨_, _, _, _, _, _, _, rfl, _⟩ := h
    rfl
  obtain ⟨H0, p, m, a, b, c, d, rfl, M, hb, q1, q2⟩ := h
  refine ⟨_, (pss_cons (ps_if (pt_cmpR op_gt (pe_callB call_len' rfl T.z_len PySem.boot_len (pa_cons (pe_fld (pv 0) rfl) pa_nil)) (pe_gc rfl T.c_MOST) (nomark _)) (pss_one (ps_fld (pv 0) pe_bl rfl)) pss_nil)
    (pss_cons (ps_if (pt_cmpR op_ne (pe_fld (pv 0) rfl) pe_str (nomark _)) (pss_one (ps_ret (pe_mt G_turn hr (by omega) (pv 0) (pa_cons pe_str pa_nil)))) pss_nil)
    (pss_cons (ps_fld (pv 0) (pe_op op_add (pe_fld (pv 0) rfl) pe_int) rfl)
    (pss_one (ps_ret (pe_mt G_finish_operand hr (by omega) (pv 0) (pa_cons (pe_tup (pa_cons pe_str (pa_cons (pe_fld (pv 0) rfl) (pa_cons (pe_callTy call_tuple' rfl T.z_tuple (by decide +kernel) (pa_cons (pe_fld (pv 0) rfl) pa_nil)) pa_nil)))) (pa_cons pe_str pa_nil)))))))), ?_⟩
  have M0 := MT.start M
  walk_at "w0"
  walk_at "m"
  refine i_rLen (.inl (SqL.of M.ma)) ?_
  walk_at "m"
  refine i_F (decide_eq_false (by omega)) ?_
  walk_at "m"
  by_cases ho : m.over = ""
  · refine i_F (by rw [ho]; decide +kernel) ?_
    walk_at "m"
    refine i_rTupL (SqL.of (by assumption : MT K H0 H _ p { m with sel := m.sel + 1 } a b c d).mo.ma) fun s hs => ?_
    have M1 := MT.start ((by assumption : MT K H0 H _ p { m with sel := m.sel + 1 } a b c d).mo.grow (o := .tup b) hs)
    have g1 := (by assumption : MT K H0 H _ p { m with sel := m.sel + 1 } a b c d).tu.trans (tup_new (o := .tup b) hs)
    walk_at "m"
    refine ⟨le_line (by decide : 3 ≤ 100000), fun u hu => ?_⟩
    have t1 := tup_new (K := K) (o := .tup [.str "latest", .str m.metric, .ref s]) hu
    have M2 := MT.start (M1.mo.grow (o := .tup [.str "latest", .str m.metric, .ref s]) hu)
    walk_at "m"
    refine c_finOp M2 fun H' t ht t2 M' => ?_
    exact q2 ho H' t u s (t2 _ _ (t1 _ _ (SqT.of upd_same))) (t2 _ _ (SqT.of upd_same)) ht ⟨M'.mo, g1.trans (t1.trans t2)⟩
  · refine i_T (by rw [decide_eq_false (fun e => ho (V.str.inj e))]; rfl) ?_
    walk_at "m"
    refine c_turn (by assumption) fun H' M' => ?_
    exact q1 ho H' M'
theorem c_finSelO (M : MT K H0 Hb H p m a b c d) (hb : b.length ≤ 6) (ho : m.over ≠ "") {R : VK} {E : XK} (h : ∀ H', TupLe K H H' → MT K H0 Hb H' p { m with mode := "range_open" } a b c d → R (.bl true) H') : spFinSel K [.ref p] H R E :=
  ⟨H0, p, m, a, b, c, d, rfl, M.mo, hb, fun _ H' M' => h H' M'.tu (M.step M'), fun e => absurd e ho⟩
theorem c_finSel (M : MT K H0 Hb H p m a b c d) (hb : b.length ≤ 6) (ho : m.over = "") {R : VK} {E : XK}
    (h : ∀ H' t u s, SqT K H' s b → SqT K H' u [.str "latest", .str m.metric, .ref s] → SqT K H' t [.ref u, .str "vector"] → TupLe K H H' → MT K H0 Hb H' p { m with sel := m.sel + 1, made := .ref t, mode := "done" } a b c d → R (.bl true) H') : spFinSel K [.ref p] H R E :=
  ⟨H0, p, m, a, b, c, d, rfl, M.mo, hb, fun e => absurd ho e, fun _ H' t u s h1 h2 h3 M' => h H' t u s h1 h2 h3 M'.tu (M.step M')⟩
end
end Wf


set_option Elab.async false
set_option linter.all false
set_option maxRecDepth 100000
set_option maxHeartbeats 4000000
namespace Wf
open PySem PySem.Spec PyProof.Rows L2
open C8 (pe_gc)
local macro_rules | `(tactic| walk_at "w1") => `(tactic| first
  | with_reducible refine i_seq ?_
  | with_reducible refine i_asg ?_
  | with_reducible refine i_gname ?_
  | ((with_reducible refine' i_var ?ivar ?imain); (case ivar => exact rfl))
  | with_reducible refine i_c ?_
  | with_reducible refine i_op ?_
  | with_reducible refine i_if ?_
  | with_reducible refine i_test ?_
  | with_reducible refine i_tB ?_
  | with_reducible refine i_bl ?_
  | with_reducible refine i_ret ?_
  | with_reducible refine i_retN ?_
  | with_reducible refine i_drop ?_
  | with_reducible refine i_next ?_
  | with_reducible refine i_cons ?_
  | with_reducible refine i_nil ?_
  | with_reducible refine i_cb ?_
  | with_reducible refine i_tup ?_
  | with_reducible refine i_lst ?_
  | with_reducible refine i_fld ?_
  | with_reducible refine i_sfld ?_
  | with_reducible refine i_call ?_
  | with_reducible refine i_meth ?_
  | with_reducible refine i_and ?_
  | with_reducible refine i_or ?_
  | with_reducible refine i_not ?_
  | with_reducible refine i_andV ?_
  | with_reducible refine i_orV ?_
  | with_reducible refine i_notV ?_
  | with_reducible refine i_ifV ?_
  | with_reducible refine i_un ?_
  | with_reducible refine i_neg ?_
  | with_reducible refine i_gcons ?_
  | with_reducible refine i_sl ?_
  | with_reducible refine i_part ?_
  | with_reducible refine i_nopart ?_
  | with_reducible refine i_int ?_
  | with_reducible refine i_inS ?_
  | with_reducible refine i_notInS ?_
  | with_reducible refine i_tyS ?_
  | with_reducible refine i_forL ?_
  | with_reducible refine i_forT ?_
  | with_reducible refine i_forR1 ?_
  | with_reducible refine i_bm ?_
  | with_reducible refine i_bm0 ?_
  | with_reducible refine i_gnil ?_
  | with_reducible refine i_rI0 ?_
  | with_reducible refine i_rIsN ?_
  | with_reducible refine i_rNotN ?_
  | with_reducible refine i_rInt ?_
  | ((with_reducible refine i_rEq ?isc ?imain); (case isc => exact rfl))
  | ((with_reducible refine i_rNe ?isc ?imain); (case isc => exact rfl))
  | with_reducible refine i_T rfl ?_
  | with_reducible refine i_F rfl ?_
  | ((refine' i_T ?icnd ?imain); (case icnd => decide +kernel))
  | ((refine' i_F ?icnd ?imain); (case icnd => decide +kernel))
  | fail)
local macro_rules | `(tactic| walk_at "w") => `(tactic| (repeat' walk_at "w1"))
local macro_rules | `(tactic| walk_at "w0") => `(tactic| (simp only [cxOf, L2.start, List.map_cons, List.map_nil, List.length_cons, List.length_nil, Nat.reduceAdd, Nat.reduceSub, Nat.zero_add, List.replicate_zero, List.replicate_succ, List.cons_append, List.nil_append]))
local macro_rules | `(tactic| walk_at "tk") => `(tactic| (simp only [Tk.sign, Tk.val]))
local macro_rules | `(tactic| walk_at "c") => `(tactic| (dsimp only [List.set_cons_zero, List.set_cons_succ, List.cons_append, List.nil_append]))

local macro_rules | `(tactic| walk_at "m1") => `(tactic| first
  | walk_at "w1"
  | ((with_reducible refine' g_mode ?T ?M ?h); (case T => assumption); (case M => assumption))
  | ((with_reducible refine' g_first ?T ?M ?h); (case T => assumption); (case M => assumption))
  | ((with_reducible refine' g_stack ?T ?M ?h); (case T => assumption); (case M => assumption))
  | ((with_reducible refine' g_made ?T ?M ?h); (case T => assumption); (case M => assumption))
  | ((with_reducible refine' g_word ?T ?M ?h); (case T => assumption); (case M => assumption))
  | ((with_reducible refine' g_place ?T ?M ?h); (case T => assumption); (case M => assumption))
  | ((with_reducible refine' g_over ?T ?M ?h); (case T => assumption); (case M => assumption))
  | ((with_reducible refine' g_metric ?T ?M ?h); (case T => assumption); (case M => assumption))
  | ((with_reducible refine' g_matchers ?T ?M ?h); (case T => assumption); (case M => assumption))
  | ((with_reducible refine' g_label ?T ?M ?h); (case T => assumption); (case M => assumption))
  | ((with_reducible refine' g_inside ?T ?M ?h); (case T => assumption); (case M => assumption))
  | ((with_reducible refine' g_found ?T ?M ?h); (case T => assumption); (case M => assumption))
  | ((with_reducible refine' g_span ?T ?M ?h); (case T => assumption); (case M => assumption))
  | ((with_reducible refine' g_spans ?T ?M ?h); (case T => assumption); (case M => assumption))
  | ((with_reducible refine' g_selectors ?T ?M ?h); (case T => assumption); (case M => assumption))
  | ((with_reducible refine' g_operators ?T ?M ?h); (case T => assumption); (case M => assumption))
  | ((with_reducible refine' g_many ?T ?M ?h); (case T => assumption); (case M => assumption))
  | ((with_reducible refine' g_unkind ?T ?M ?h); (case T => assumption); (case M => assumption))
  | ((with_reducible refine' s_mode ?T ?M ?h); (case T => assumption); (case M => assumption); intro _ _)
  | ((with_reducible refine' s_first ?T ?M ?h); (case T => assumption); (case M => assumption); intro _ _)
  | ((with_reducible refine' s_made ?T ?M ?h); (case T => assumption); (case M => assumption); intro _ _)
  | ((with_reducible refine' s_word ?T ?M ?h); (case T => assumption); (case M => assumption); intro _ _)
  | ((with_reducible refine' s_place ?T ?M ?h); (case T => assumption); (case M => assumption); intro _ _)
  | ((with_reducible refine' s_over ?T ?M ?h); (case T => assumption); (case M => assumption); intro _ _)
  | ((with_reducible refine' s_metric ?T ?M ?h); (case T => assumption); (case M => assumption); intro _ _)
  | ((with_reducible refine' s_label ?T ?M ?h); (case T => assumption); (case M => assumption); intro _ _)
  | ((with_reducible refine' s_inside ?T ?M ?h); (case T => assumption); (case M => assumption); intro _ _)
  | ((with_reducible refine' s_span ?T ?M ?h); (case T => assumption); (case M => assumption); intro _ _)
  | ((with_reducible refine' s_selectors ?T ?M ?h); (case T => assumption); (case M => assumption); intro _ _)
  | ((with_reducible refine' s_operators ?T ?M ?h); (case T => assumption); (case M => assumption); intro _ _)
  | ((with_reducible refine' g_meth ?M ?l ?h); (case M => assumption); (case l => first | exact nol_turn _ | exact nol_finish_operand _ | exact nol_begin_selector _ | exact nol_finish_selector _ | exact nol_finish_over _ | exact nol_add_matcher _ | exact nol_judge _ | exact nol_combine _ | exact nol_close _ | exact nol_open_aggregate _ | exact nol_end_named _ | exact nol_has_open _ | exact nol_can_end _))
  | fail)
local macro_rules | `(tactic| walk_at "m") => `(tactic| (repeat' walk_at "m1"))

section
variable {P : Program} {w : World} {K : PySem.W.Frag} {mg : Str → Option Value} {base : Heap} {H0 Hb H : Hp} {p : Addr} {m : MF} {a b c d : List V}
/-! finish_over -/
def spFinOver (K : PySem.W.Frag) : Sp := fun vs H Q _ => ∃ (H0 : Hp) (p : Addr) (m : MF) (a b c d : List V), vs = [.ref p] ∧ MO K H0 H p m a b c d ∧
  ∀ H' t u s, SqT K H' s b → SqT K H' u [.str "over", .str m.over, .str m.metric, .ref s, .int m.span] → SqT K H' t [.ref u, .str "vector"] → MT K H0 H H' p { m with sel := m.sel + 1, made := .ref t, mode := "done" } a b c d → Q (.bl true) H'
theorem c_finOver (M : MT K H0 Hb H p m a b c d) {R : VK} {E : XK}
    (h : ∀ H' t u s, SqT K H' s b → SqT K H' u [.str "over", .str m.over, .str m.metric, .ref s, .int m.span] → SqT K H' t [.ref u, .str "vector"] → TupLe K H H' → MT K H0 Hb H' p { m with sel := m.sel + 1, made := .ref t, mode := "done" } a b c d → R (.bl true) H') : spFinOver K [.ref p] H R E :=
  ⟨H0, p, m, a, b, c, d, rfl, M.mo, fun H' t u s h1 h2 h3 M' => h H' t u s h1 h2 h3 M'.tu (M.step M')⟩
theorem sc_M_finish_over : FnScope (["self", "made"] : List Str) (["self"] : List Str) (defScope s_M_finish_over) := ⟨rfl, rfl, rfl, by decide +kernel, rfl, by decide +kernel, by decide +kernel⟩
theorem k_finish_over (T : Txt w K mg) : Met P w K mg base 3 "finish_over" (spFinOver K) := by
  have G_finish_operand := k_finish_operand (P := P) (base := base) T
  obtain ⟨fd, F⟩ := T.d_M_finish_over
  refine ⟨_, fd, ["self"], T.cl, T.m_finish_over, fn_ok F sc_M_finish_over (fun vs H Q E h => ?_) (fun cdv A outer s H vs Q E hr h => ?_), F.bindsN (fun _ _ _ _ _ _ us hl => match us, hl with | [_], _ => rfl)⟩
  · obtain ⟨_, _, _, _, _, _, _, rfl, _⟩ := h
    rfl
  obtain ⟨H0, p, m, a, b, c, d, rfl, M, q⟩ := h
  refine ⟨_, (pss_cons (ps_fld (pv 0) (pe_op op_add (pe_fld (pv 0) rfl) pe_int) rfl)
    (pss_cons (ps_set (i := 1) sc_M_finish_over.nd rfl (by first | exact Or.inl rfl | exact Or.inr rfl) (pe_tup (pa_cons pe_str (pa_cons (pe_fld (pv 0) rfl) (pa_cons (pe_fld (pv 0) rfl) (pa_cons (pe_callTy call_tuple' rfl T.z_tuple (by decide +kernel) (pa_cons (pe_fld (pv 0) rfl) pa_nil)) (pa_cons (pe_fld (pv 0) rfl) pa_nil)))))))
    (pss_one (ps_ret (pe_mt G_finish_operand hr (by omega) (pv 0) (pa_cons (pv 1) (pa_cons pe_str pa_nil))))))), ?_⟩
  have M0 := MT.start M
  walk_at "w0"
  walk_at "m"
  rename_i H1 M1
  refine i_rTupL (SqL.of M1.mo.ma) fun s hs => ?_
  have g1 := M1.tu.trans (tup_new (o := .tup b) hs)
  have M2 := MT.start (M1.mo.grow (o := .tup b) hs)
  walk_at "m"
  refine ⟨le_line (by decide : 5 ≤ 100000), fun u hu => ?_⟩
  have t1 := tup_new (K := K) (o := .tup [.str "over", .str m.over, .str m.metric, .ref s, .int m.span]) hu
  have M3 := MT.start (M2.mo.grow (o := .tup [.str "over", .str m.over, .str m.metric, .ref s, .int m.span]) hu)
  walk_at "m"
  refine c_finOp M3 fun H' t ht t2 M' => ?_
  exact q H' t u s (t2 _ _ (t1 _ _ (SqT.of upd_same))) (t2 _ _ (SqT.of upd_same)) ht ⟨M'.mo, g1.trans (t1.trans t2)⟩
/-! add_matcher -/
def spAddM (K : PySem.W.Frag) : Sp := fun vs H Q _ => ∃ (H0 : Hp) (p : Addr) (m : MF) (a b c d : List V), vs = [.ref p] ∧ MO K H0 H p m a b c d ∧ c.length ≤ 6 ∧ b.length ≤ 1000 ∧
  ∀ H' t u, SqT K H' u c → SqT K H' t [.str m.label, .ref u, .bl m.inside] → MT K H0 H H' p { m with mode := "matched" } a (b ++ [.ref t]) c d → Q (.bl true) H'
theorem c_addM (M : MT K H0 Hb H p m a b c d) (hc : c.length ≤ 6) (hb : b.length ≤ 1000) {R : VK} {E : XK}
    (h : ∀ H' t u, SqT K H' u c → SqT K H' t [.str m.label, .ref u, .bl m.inside] → TupLe K H H' → MT K H0 Hb H' p { m with mode := "matched" } a (b ++ [.ref t]) c d → R (.bl true) H') : spAddM K [.ref p] H R E :=
  ⟨H0, p, m, a, b, c, d, rfl, M.mo, hc, hb, fun H' t u h1 h2 M' => h H' t u h1 h2 M'.tu (M.step M')⟩
theorem sc_M_add_matcher : FnScope (["self"] : List Str) (["self"] : List Str) (defScope s_M_add_matcher) := ⟨rfl, rfl, rfl, by decide +kernel, rfl, by decide +kernel, by decide +kernel⟩
theorem k_add_matcher (T : Txt w K mg) : Met P w K mg base 2 "add_matcher" (spAddM K) := by
  have G_turn := k_turn (P := P) (base := base) T
  obtain ⟨fd, F⟩ := T.d_M_add_matcher
  refine ⟨_, fd, ["self"], T.cl, T.m_add_matcher, fn_ok F sc_M_add_matcher (fun vs H Q E h => ?_) (fun cdv A outer s H vs Q E hr h => ?_), F.bindsN (fun _ _ _ _ _ _ us hl => match us, hl with | [_], _ => rfl)⟩
  · obtain ⟨_, _, _, _, _, _, _, rfl, _⟩ := h
    rfl
  obtain ⟨H0, p, m, a, b, c, d, rfl, M, hc, hb, q⟩ := h
  refine ⟨_, (pss_cons (ps_if (pt_cmpR op_gt (pe_callB call_len' rfl T.z_len PySem.boot_len (pa_cons (pe_fld (pv 0) rfl) pa_nil)) (pe_gc rfl T.c_MOST) (nomark _)) (pss_one (ps_fld (pv 0) pe_bl rfl)) pss_nil)
    (pss_cons (ps_expr (pe_bm PySem.F.plainAttrs_list PySem.F.slot_list_append PySem.F.type_list_append mt_append (pe_fld (pv 0) rfl) (pa_cons (pe_tup (pa_cons (pe_fld (pv 0) rfl) (pa_cons (pe_callTy call_tuple' rfl T.z_tuple (by decide +kernel) (pa_cons (pe_fld (pv 0) rfl) pa_nil)) (pa_cons (pe_fld (pv 0) rfl) pa_nil)))) pa_nil)))
    (pss_one (ps_ret (pe_mt G_turn hr (by omega) (pv 0) (pa_cons pe_str pa_nil)))))), ?_⟩
  have M0 := MT.start M
  walk_at "w0"
  walk_at "m"
  refine i_rLen (.inl (SqL.of M.fo)) ?_
  walk_at "m"
  refine i_F (decide_eq_false (by omega)) ?_
  walk_at "m"
  refine i_tyL (SqL.of M.ma) ?_
  walk_at "m"
  refine i_rTupL (SqL.of M.fo) fun u hu => ?_
  have g1 := tup_new (K := K) (o := .tup c) hu
  have M1 := MT.start (M.grow (o := .tup c) hu)
  walk_at "m"
  refine ⟨le_line (by decide : 3 ≤ 100000), fun t ht => ?_⟩
  have t1 := tup_new (K := K) (o := .tup [.str m.label, .ref u, .bl m.inside]) ht
  have M2 := MT.start (M1.mo.grow (o := .tup [.str m.label, .ref u, .bl m.inside]) ht)
  walk_at "m"
  refine i_append M2.mo.ma (lt_line (by omega)) ?_
  have M3 := M2.setMa (xs := b ++ [.ref t])
  walk_at "m"
  refine c_turn M3 fun H' M' => ?_
  exact q H' t u (M'.tu _ _ (t1 _ _ (SqT.of upd_same))) (M'.tu _ _ (SqT.of upd_same)) ⟨M'.mo, g1.trans (t1.trans M'.tu)⟩
/-! judge -/
def spJudge (K : PySem.W.Frag) : Sp := fun vs H Q _ => ∃ (H0 : Hp) (p : Addr) (m : MF) (a b c d : List V) (k : V) (z : Bool) (pl : Int), vs = [.ref p, k, .bl z, .int pl] ∧ k ≠ .non ∧ MO K H0 H p m a b c d ∧
  ∀ H', MT K H0 H H' p { m with ops := m.ops + 1 } a b c d → Q .non H'
theorem c_judge (M : MT K H0 Hb H p m a b c d) {k : V} {z : Bool} {pl : Int} (hk : k ≠ .non) {R : VK} {E : XK} (h : ∀ H', TupLe K H H' → MT K H0 Hb H' p { m with ops := m.ops + 1 } a b c d → R .non H') : spJudge K [.ref p, k, .bl z, .int pl] H R E :=
  ⟨H0, p, m, a, b, c, d, k, z, pl, rfl, hk, M.mo, fun H' M' => h H' M'.tu (M.step M')⟩
theorem sc_M_judge : FnScope (["self", "kind", "has_parts", "place"] : List Str) (["self", "kind", "has_parts", "place"] : List Str) (defScope s_M_judge) := ⟨rfl, rfl, rfl, by decide +kernel, rfl, by decide +kernel, by decide +kernel⟩
theorem k_judge (T : Txt w K mg) : Met P w K mg base 1 "judge" (spJudge K) := by
  obtain ⟨fd, F⟩ := T.d_M_judge
  refine ⟨_, fd, ["self", "kind", "has_parts", "place"], T.cl, T.m_judge, fn_ok F sc_M_judge (fun vs H Q E h => ?_) (fun cdv A outer s H vs Q E hr h => ?_), F.bindsN (fun _ _ _ _ _ _ us hl => match us, hl with | [_, _, _, _], _ => rfl)⟩
  · obtain ⟨_, _, _, _, _, _, _, _, _, _, rfl, _⟩ := h
    rfl
  obtain ⟨H0, p, m, a, b, c, d, k, z, pl, rfl, hk, M, q⟩ := h
  refine ⟨_, (pss_cons (ps_fld (pv 0) (pe_op op_add (pe_fld (pv 0) rfl) pe_int) rfl)
    (pss_one (ps_if (PW.pt (pw_and (pt_cmpR op_isN' (pv 1) pe_non (nomark _)) (pw_and (pt_val (pv 2)) (pw_and1 (pt_cmpR op_isN' (pe_fld (pv 0) rfl) pe_non (nomark _)))))) (pss_one (ps_fld (pv 0) (pv 3) rfl)) pss_nil))), ?_⟩
  have M0 := MT.start M
  walk_at "w0"
  walk_at "m"
  refine i_F (decide_eq_false hk) ?_
  walk_at "m"
  exact q _ (by assumption)
/-! kind_of_binary -/
def spKind : Sp := fun vs H Q _ => ∃ (o : Op) (l r : Option Bool), vs = [.str o.str, kdV l, kdV r] ∧ Q (kdV (kdBin o l r)) H
theorem sc_kind_of_binary : FnScope (["sign", "left", "right"] : List Str) (["sign", "left", "right"] : List Str) (defScope s_kind_of_binary) := ⟨rfl, rfl, rfl, by decide +kernel, rfl, by decide +kernel, by decide +kernel⟩
theorem k_kind_of_binary (T : Txt w K mg) : Cal P w K mg base 1 "kind_of_binary" spKind := by
  obtain ⟨fd, F⟩ := T.d_kind_of_binary
  refine ⟨_, fd, ["sign", "left", "right"], fn_ok F sc_kind_of_binary (fun vs H Q E h => ?_) (fun cdv A outer s H vs Q E hr h => ?_), T.g_kind_of_binary, F.kp, F.bindsN (fun _ _ _ _ _ _ us hl => match us, hl with | [_, _, _], _ => rfl)⟩
  · obtain ⟨_, _, _, rfl, _⟩ := h
    rfl
  obtain ⟨o, l, r, rfl, q⟩ := h
  refine ⟨_, (pss_cons (ps_if (PW.pt (pw_or (pt_cmpR op_isN' (pv 1) pe_non (nomark _)) (pw_or1 (pt_cmpR op_isN' (pv 2) pe_non (nomark _))))) (pss_one (ps_ret pe_non)) pss_nil)
    (pss_cons (ps_if (pt_cmpR op_in_seq (pv 0) (pe_globR rfl T.g_JOINS) rfl) (pss_cons (ps_if (PW.pt (pw_and (pt_cmpR op_eq (pv 1) pe_str (nomark _)) (pw_and1 (pt_cmpR op_eq (pv 2) pe_str (nomark _))))) (pss_one (ps_ret pe_str)) pss_nil)
    (pss_one (ps_ret pe_non))) pss_nil)
    (pss_cons (ps_if (PW.pt (pw_or (pt_cmpR op_eq (pv 1) pe_str (nomark _)) (pw_or1 (pt_cmpR op_eq (pv 2) pe_str (nomark _))))) (pss_one (ps_ret pe_str)) pss_nil)
    (pss_cons (ps_if (pt_cmpR op_in_seq (pv 0) (pe_globR rfl T.g_ARITHMETIC) rfl) (pss_one (ps_ret pe_str)) pss_nil)
    (pss_one (ps_ret pe_non)))))), ?_⟩
  walk_at "w0"
  cases l with
  | none =>
    walk_at "w"
    exact q
  | some l =>
    cases r with
    | none =>
      cases l <;> (walk_at "w"; exact q)
    | some r =>
      cases o <;> cases l <;> cases r <;> (walk_at "w"; refine i_rIn (.inr (T.t_JOINS _)) rfl rfl ?_; walk_at "w"; first | exact q | (refine i_rIn (.inr (T.t_ARITHMETIC _)) rfl rfl ?_; walk_at "w"; exact q))
end
end Wf


set_option Elab.async false
set_option linter.all false
set_option maxRecDepth 100000
set_option maxHeartbeats 4000000
namespace Wf
open PySem PySem.Spec PyProof.Rows L2
open C8 (pe_gc)
local macro_rules | `(tactic| walk_at "w1") => `(tactic| first
  | with_reducible refine i_seq ?_
  | with_reducible refine i_asg ?_
  | with_reducible refine i_gname ?_
  | ((with_reducible refine' i_var ?ivar ?imain); (case ivar => exact rfl))
  | with_reducible refine i_c ?_
  | with_reducible refine i_op ?_
  | with_reducible refine i_if ?_
  | with_reducible refine i_test ?_
  | with_reducible refine i_tB ?_
  | with_reducible refine i_bl ?_
  | with_reducible refine i_ret ?_
  | with_reducible refine i_retN ?_
  | with_reducible refine i_drop ?_
  | with_reducible refine i_next ?_
  | with_reducible refine i_cons ?_
  | with_reducible refine i_nil ?_
  | with_reducible refine i_cb ?_
  | with_reducible refine i_tup ?_
  | with_reducible refine i_lst ?_
  | with_reducible refine i_fld ?_
  | with_reducible refine i_sfld ?_
  | with_reducible refine i_call ?_
  | with_reducible refine i_meth ?_
  | with_reducible refine i_and ?_
  | with_reducible refine i_or ?_
  | with_reducible refine i_not ?_
  | with_reducible refine i_andV ?_
  | with_reducible refine i_orV ?_
  | with_reducible refine i_notV ?_
  | with_reducible refine i_ifV ?_
  | with_reducible refine i_un ?_
  | with_reducible refine i_neg ?_
  | with_reducible refine i_gcons ?_
  | with_reducible refine i_sl ?_
  | with_reducible refine i_part ?_
  | with_reducible refine i_nopart ?_
  | with_reducible refine i_int ?_
  | with_reducible refine i_inS ?_
  | with_reducible refine i_notInS ?_
  | with_reducible refine i_tyS ?_
  | with_reducible refine i_forL ?_
  | with_reducible refine i_forT ?_
  | with_reducible refine i_forR1 ?_
  | with_reducible refine i_bm ?_
  | with_reducible refine i_bm0 ?_
  | with_reducible refine i_gnil ?_
  | with_reducible refine i_rI0 ?_
  | with_reducible refine i_rIsN ?_
  | with_reducible refine i_rNotN ?_
  | with_reducible refine i_rInt ?_
  | ((with_reducible refine i_rEq ?isc ?imain); (case isc => exact rfl))
  | ((with_reducible refine i_rNe ?isc ?imain); (case isc => exact rfl))
  | with_reducible refine i_T rfl ?_
  | with_reducible refine i_F rfl ?_
  | ((refine' i_T ?icnd ?imain); (case icnd => decide +kernel))
  | ((refine' i_F ?icnd ?imain); (case icnd => decide +kernel))
  | fail)
local macro_rules | `(tactic| walk_at "w") => `(tactic| (repeat' walk_at "w1"))
local macro_rules | `(tactic| walk_at "w0") => `(tactic| (simp only [cxOf, L2.start, List.map_cons, List.map_nil, List.length_cons, List.length_nil, Nat.reduceAdd, Nat.reduceSub, Nat.zero_add, List.replicate_zero, List.replicate_succ, List.cons_append, List.nil_append]))
local macro_rules | `(tactic| walk_at "tk") => `(tactic| (simp only [Tk.sign, Tk.val]))
local macro_rules | `(tactic| walk_at "c") => `(tactic| (dsimp only [List.set_cons_zero, List.set_cons_succ, List.cons_append, List.nil_append]))

local macro_rules | `(tactic| walk_at "m1") => `(tactic| first
  | walk_at "w1"
  | ((with_reducible refine' g_mode ?T ?M ?h); (case T => assumption); (case M => assumption))
  | ((with_reducible refine' g_first ?T ?M ?h); (case T => assumption); (case M => assumption))
  | ((with_reducible refine' g_stack ?T ?M ?h); (case T => assumption); (case M => assumption))
  | ((with_reducible refine' g_made ?T ?M ?h); (case T => assumption); (case M => assumption))
  | ((with_reducible refine' g_word ?T ?M ?h); (case T => assumption); (case M => assumption))
  | ((with_reducible refine' g_place ?T ?M ?h); (case T => assumption); (case M => assumption))
  | ((with_reducible refine' g_over ?T ?M ?h); (case T => assumption); (case M => assumption))
  | ((with_reducible refine' g_metric ?T ?M ?h); (case T => assumption); (case M => assumption))
  | ((with_reducible refine' g_matchers ?T ?M ?h); (case T => assumption); (case M => assumption))
  | ((with_reducible refine' g_label ?T ?M ?h); (case T => assumption); (case M => assumption))
  | ((with_reducible refine' g_inside ?T ?M ?h); (case T => assumption); (case M => assumption))
  | ((with_reducible refine' g_found ?T ?M ?h); (case T => assumption); (case M => assumption))
  | ((with_reducible refine' g_span ?T ?M ?h); (case T => assumption); (case M => assumption))
  | ((with_reducible refine' g_spans ?T ?M ?h); (case T => assumption); (case M => assumption))
  | ((with_reducible refine' g_selectors ?T ?M ?h); (case T => assumption); (case M => assumption))
  | ((with_reducible refine' g_operators ?T ?M ?h); (case T => assumption); (case M => assumption))
  | ((with_reducible refine' g_many ?T ?M ?h); (case T => assumption); (case M => assumption))
  | ((with_reducible refine' g_unkind ?T ?M ?h); (case T => assumption); (case M => assumption))
  | ((with_reducible refine' s_mode ?T ?M ?h); (case T => assumption); (case M => assumption); intro _ _)
  | ((with_reducible refine' s_first ?T ?M ?h); (case T => assumption); (case M => assumption); intro _ _)
  | ((with_reducible refine' s_made ?T ?M ?h); (case T => assumption); (case M => assumption); intro _ _)
  | ((with_reducible refine' s_word ?T ?M ?h); (case T => assumption); (case M => assumption); intro _ _)
  | ((with_reducible refine' s_place ?T ?M ?h); (case T => assumption); (case M => assumption); intro _ _)
  | ((with_reducible refine' s_over ?T ?M ?h); (case T => assumption); (case M => assumption); intro _ _)
  | ((with_reducible refine' s_metric ?T ?M ?h); (case T => assumption); (case M => assumption); intro _ _)
  | ((with_reducible refine' s_label ?T ?M ?h); (case T => assumption); (case M => assumption); intro _ _)
  | ((with_reducible refine' s_inside ?T ?M ?h); (case T => assumption); (case M => assumption); intro _ _)
  | ((with_reducible refine' s_span ?T ?M ?h); (case T => assumption); (case M => assumption); intro _ _)
  | ((with_reducible refine' s_selectors ?T ?M ?h); (case T => assumption); (case M => assumption); intro _ _)
  | ((with_reducible refine' s_operators ?T ?M ?h); (case T => assumption); (case M => assumption); intro _ _)
  | ((with_reducible refine' g_meth ?M ?l ?h); (case M => assumption); (case l => first | exact nol_turn _ | exact nol_finish_operand _ | exact nol_begin_selector _ | exact nol_finish_selector _ | exact nol_finish_over _ | exact nol_add_matcher _ | exact nol_judge _ | exact nol_combine _ | exact nol_close _ | exact nol_open_aggregate _ | exact nol_end_named _ | exact nol_has_open _ | exact nol_can_end _))
  | fail)
local macro_rules | `(tactic| walk_at "m") => `(tactic| (repeat' walk_at "m1"))

section
variable {P : Program} {w : World} {K : PySem.W.Frag} {mg : Str → Option Value} {base : Heap} {H0 Hb H : Hp} {p : Addr} {m : MF} {a b c d : List V}
theorem strength_at (T : Txt w K mg) (o : Op) : KDct K w (He.ga K "STRENGTHS") o.str (.int o.lev) := by
  obtain ⟨es, n, D⟩ := T.kd_STRENGTHS
  have h : (o.str, (o.lev : Int)) ∈ strengthsL := by cases o <;> simp [strengthsL, Op.str, Op.lev]
  obtain ⟨u, h1, h2⟩ := T.v_STRENGTHS _ h
  exact ⟨es, n, u, D.at_, D.lit, h1, h2⟩
theorem i_rIxD {d : Addr} {z : Str} {v : V} {Q : VK} (h : KDct K w d z v) (q : Q v H) : rIxD K w (.ref d) (.str z) H Q := ⟨d, z, v, rfl, rfl, h, q⟩
theorem atI_0 {α : Type} {x : α} {l : List α} : atI (x :: l) 0 = some x := atI_nat (j := 0) rfl
theorem atI_1 {α : Type} {x y : α} {l : List α} : atI (x :: y :: l) 1 = some y := atI_nat (j := 1) rfl
theorem atI_2 {α : Type} {x y z : α} {l : List α} : atI (x :: y :: z :: l) 2 = some z := atI_nat (j := 2) rfl
theorem atI_3 {α : Type} {x y z u : α} {l : List α} : atI (x :: y :: z :: u :: l) 3 = some u := atI_nat (j := 3) rfl
theorem atI_4 {α : Type} {x y z u v : α} {l : List α} : atI (x :: y :: z :: u :: v :: l) 4 = some v := atI_nat (j := 4) rfl
theorem i_tru {R : Bool → Prop} {q : Addr} {xs : List V} (h : SqL K H q xs) (hq : R (!xs.isEmpty)) : ∃ k, TruV K (.ref q) H k ∧ R k := ⟨_, .inl ⟨xs, h, rfl⟩, hq⟩
theorem i_popM {r : List V} {v : V} (M : MT K H0 Hb H p m (r ++ [v]) b c d) {R : VK} (h : ∀ H', TupLe K H H' → MT K H0 Hb H' p m r b c d → R v H') : rPop (.ref m.st) [] H R :=
  i_pop M.mo.st (h _ (tup_lst M.mo.st) M.setSt)
/-! combine -/
def spComb (K : PySem.W.Frag) : Sp := fun vs H Q _ => ∃ (H0 : Hp) (p : Addr) (m : MF) (a b c d : List V) (least : Nat) (st st' : List Ent) (e e' : Ex) (n n' : Nat), vs = [.ref p, .int least] ∧ MO K H0 H p m a b c d ∧
  StR K H st a ∧ MadeR K H e m.made ∧ m.ops = n ∧ comb least st e n = some (st', e', n') ∧
  ∀ H' a' md, StR K H' st' a' → MadeR K H' e' md → MT K H0 H H' p { m with made := md, ops := n' } a' b c d → Q .non H'
theorem c_comb (M : MT K H0 Hb H p m a b c d) {least : Nat} {st st' : List Ent} {e e' : Ex} {n n' : Nat} (h1 : StR K H st a) (h2 : MadeR K H e m.made) (h3 : m.ops = n) (h4 : comb least st e n = some (st', e', n')) {R : VK} {E : XK}
    (h : ∀ H' a' md, StR K H' st' a' → MadeR K H' e' md → TupLe K H H' → MT K H0 Hb H' p { m with made := md, ops := n' } a' b c d → R .non H') : spComb K [.ref p, .int least] H R E :=
  ⟨H0, p, m, a, b, c, d, least, st, st', e, e', n, n', rfl, M.mo, h1, h2, h3, h4, fun H' a' md s1 s2 M' => h H' a' md s1 s2 M'.tu (M.step M')⟩
def WComb (K : PySem.W.Frag) (H0 H : Hp) (p : Addr) (m : MF) (b c d : List V) (least : Nat) (st' : List Ent) (e' : Ex) (n' : Nat) (k : Nat) (σ : L2.St) (H1 : Hp) : Prop :=
  ∃ (x2 x3 x4 x5 x6 x7 : Option V) (st1 : List Ent) (e1 : Ex) (n1 : Nat) (a1 : List V) (md : V), σ = [some (.ref p), some (.int least), x2, x3, x4, x5, x6, x7] ∧ st1.length = k ∧ comb least st1 e1 n1 = some (st', e', n') ∧
    StR K H1 st1 a1 ∧ MadeR K H1 e1 md ∧ MT K H0 H H1 p { m with made := md, ops := n1 } a1 b c d
theorem sc_M_combine : FnScope (["self", "least", "_", "sign", "left", "place", "right", "kind"] : List Str) (["self", "least"] : List Str) (defScope s_M_combine) := ⟨rfl, rfl, rfl, by decide +kernel, rfl, by decide +kernel, by decide +kernel⟩
theorem k_combine (T : Txt w K mg) : Met P w K mg base 2 "combine" (spComb K) := by
  have G_judge := k_judge (P := P) (base := base) T
  have G_kind_of_binary := k_kind_of_binary (P := P) (base := base) T
  obtain ⟨fd, F⟩ := T.d_M_combine
  refine ⟨_, fd, ["self", "least"], T.cl, T.m_combine, fn_ok F sc_M_combine (fun vs H Q E h => ?_) (fun cdv A outer s H vs Q E hr h => ?_), F.bindsN (fun _ _ _ _ _ _ us hl => match us, hl with | [_, _], _ => rfl)⟩
  · obtain ⟨_, _, _, _, _, _, _, _, _, _, _, _, _, _, rfl, _⟩ := h
    rfl
  obtain ⟨H0, p, m, a, b, c, d, least, st, st', e, e', n, n', rfl, M, hst, hmd, hn, hc, q⟩ := h
  refine ⟨_, (pss_one (ps_while PassesOwn.never (PW.pt (pw_and (pt_truth (pe_fld (pv 0) rfl) (by intro _; rfl)) (pw_and (pt_cmpR op_eq (pe_ix ix_tup (pe_ix ix_list (pe_fld (pv 0) rfl) (pe_un un_neg pe_int) (fun _ _ => rfl)) pe_int (fun _ _ => rfl)) pe_str (nomark _)) (pw_and1 (pt_cmpR op_ge (pe_ix ix_kdict (pe_globR rfl T.g_STRENGTHS) (pe_ix ix_tup (pe_ix ix_list (pe_fld (pv 0) rfl) (pe_un un_neg pe_int) (fun _ _ => rfl)) pe_int (fun _ _ => rfl)) (fun _ _ => rfl)) (pv 1) (nomark _)))))) (pss_cons (ps_asg (pe_bm0 PySem.F.plainAttrs_list PySem.F.slot_list_pop PySem.F.type_list_pop mt_pop (pe_fld (pv 0) rfl)) (pg_tup (by rfl) (pgs_cons (pg_name (i := 2) sc_M_combine.nd rfl (by first | exact Or.inl rfl | exact Or.inr rfl)) (pgs_cons (pg_name (i := 3) sc_M_combine.nd rfl (by first | exact Or.inl rfl | exact Or.inr rfl)) (pgs_cons (pg_name (i := 4) sc_M_combine.nd rfl (by first | exact Or.inl rfl | exact Or.inr rfl)) (pgs_cons (pg_name (i := 5) sc_M_combine.nd rfl (by first | exact Or.inl rfl | exact Or.inr rfl)) pgs_nil))))))
    (pss_cons (ps_set (i := 6) sc_M_combine.nd rfl (by first | exact Or.inl rfl | exact Or.inr rfl) (pe_fld (pv 0) rfl))
    (pss_cons (ps_set (i := 7) sc_M_combine.nd rfl (by first | exact Or.inl rfl | exact Or.inr rfl) (pe_c G_kind_of_binary hr (by omega) rfl (pa_cons (pv 3) (pa_cons (pe_ix ix_tup (pv 4) pe_int (fun _ _ => rfl)) (pa_cons (pe_ix ix_tup (pv 6) pe_int (fun _ _ => rfl)) pa_nil)))))
    (pss_cons (ps_expr (pe_mt G_judge hr (by omega) (pv 0) (pa_cons (pv 7) (pa_cons (pe_and (pe_cmpR op_notN' (pe_ix ix_tup (pv 4) pe_int (fun _ _ => rfl)) pe_non (nomark _)) (pe_one (pe_cmpR op_notN' (pe_ix ix_tup (pv 6) pe_int (fun _ _ => rfl)) pe_non (nomark _)))) (pa_cons (pv 5) pa_nil)))))
    (pss_one (ps_fld (pv 0) (pe_tup (pa_cons (pe_tup (pa_cons pe_str (pa_cons (pv 3) (pa_cons (pe_ix ix_tup (pv 4) pe_int (fun _ _ => rfl)) (pa_cons (pe_ix ix_tup (pv 6) pe_int (fun _ _ => rfl)) pa_nil))))) (pa_cons (pv 7) pa_nil))) rfl)))))))), ?_⟩
  walk_at "w0"
  refine ⟨WComb K H0 H p m b c d least st' e' n', ⟨_, none, none, none, none, none, none, st, e, n, a, m.made, rfl, rfl, hc, hst, hmd, ?_⟩, ?_⟩
  · rw [← hn]
    exact MT.start M
  rintro k σ H1 ⟨x2, x3, x4, x5, x6, x7, st1, e1, n1, a1, md, rfl, rfl, hc1, hs1, hm1, M1⟩
  walk_at "m"
  refine i_tru (SqL.of M1.mo.st) ?_
  cases st1 with
  | nil =>
    have ea : a1 = [] := hs1
    subst ea
    cases hc1
    walk_at "m"
    exact q H1 _ _ hs1 hm1 M1
  | cons en st2 =>
    obtain ⟨r, v, rfl, hen, hs2⟩ := hs1
    refine i_T (by simp) ?_
    walk_at "m"
    refine i_rIxL (SqL.of M1.mo.st) (atI_last r v) ?_
    walk_at "m"
    have stop : comb least (en :: st2) e1 n1 = some (en :: st2, e1, n1) → Q .non H1 := fun e2 => by
      rw [e2] at hc1
      cases hc1
      exact q H1 _ _ ⟨r, v, rfl, hen, hs2⟩ hm1 M1
    cases en with
    | «open» =>
      obtain ⟨t, rfl, ht⟩ := hen
      refine i_rIxT ht atI_0 ?_
      walk_at "m"
      exact stop rfl
    | agg aw ns =>
      obtain ⟨t, u, pl, rfl, ht, hu⟩ := hen
      refine i_rIxT ht atI_0 ?_
      walk_at "m"
      exact stop rfl
    | inf o l =>
      have hen' := hen
      obtain ⟨t, x, pl, rfl, ht, tl, xl, kl, rfl, htl, hxl, hkl⟩ := hen'
      refine i_rIxT ht atI_0 ?_
      walk_at "m"
      refine i_rIxL (SqL.of M1.mo.st) (atI_last r _) ?_
      walk_at "m"
      refine i_rIxT ht atI_1 ?_
      refine i_rIxD (strength_at T o) ?_
      walk_at "m"
      by_cases hle : least ≤ o.lev
      · refine i_T (decide_eq_true (by omega)) ?_
        have hc2 : comb least (.inf o l :: st2) e1 n1 = if (Ex.bin o l e1).kd.isSome then comb least st2 (.bin o l e1) (n1 + 1) else none := by
          show (if least ≤ o.lev then _ else _) = _
          rw [if_pos hle]
        rw [hc2] at hc1
        obtain ⟨kb, hkb⟩ : ∃ kb, (Ex.bin o l e1).kd = some kb := by
          cases z : (Ex.bin o l e1).kd with
          | none =>
            rw [z] at hc1
            cases hc1
          | some kb => exact ⟨kb, rfl⟩
        rw [hkb] at hc1
        have hc3 : comb least st2 (.bin o l e1) (n1 + 1) = some (st', e', n') := hc1
        refine ⟨WComb K H0 H p m b c d least st' e' n' st2.length, fun σ' H' h => ⟨_, Nat.lt_succ_self _, h⟩, ?_⟩
        walk_at "m"
        refine i_tyL (SqL.of M1.mo.st) ?_
        obtain ⟨te, xe, ke, rfl, hte, hxe, hke⟩ := hm1
        refine i_popM M1 fun H2 g1 M2 => ?_
        refine i_gtup (g1 _ _ ht) rfl ?_
        walk_at "m"
        refine i_rIxT (g1 _ _ htl) atI_1 ?_
        walk_at "m"
        refine i_rIxT (g1 _ _ hte) atI_1 ?_
        walk_at "m"
        refine ⟨o, some kl, some ke, rfl, ?_⟩
        have ek : kdBin o (some kl) (some ke) = some kb := by
          rw [← hkb]
          show _ = kdBin o l.kd e1.kd
          rw [hkl, hke]
        rw [ek]
        walk_at "m"
        refine i_rIxT (g1 _ _ htl) atI_1 ?_
        walk_at "m"
        refine i_T (by cases kl <;> rfl) ?_
        walk_at "m"
        refine i_rIxT (g1 _ _ hte) atI_1 ?_
        walk_at "m"
        refine c_judge M2 (by cases kb <;> (intro z; cases z)) fun H3 t3 M3 => ?_
        walk_at "m"
        refine i_rIxT (t3 _ _ (g1 _ _ htl)) atI_0 ?_
        walk_at "m"
        refine i_rIxT (t3 _ _ (g1 _ _ hte)) atI_0 ?_
        walk_at "m"
        refine ⟨le_line (by decide : 4 ≤ 100000), fun u hu => ?_⟩
        have t4 := tup_new (K := K) (o := .tup [.str "binary", .str o.str, xl, xe]) hu
        have M4 := M3.grow (o := .tup [.str "binary", .str o.str, xl, xe]) hu
        walk_at "m"
        refine ⟨le_line (by decide : 2 ≤ 100000), fun y hy => ?_⟩
        have t5 := tup_new (K := K) (o := .tup [.ref u, kdV (some kb)]) hy
        have M5 := M4.grow (o := .tup [.ref u, kdV (some kb)]) hy
        have M5' := MT.start M5.mo
        walk_at "m"
        rename_i H6 M6
        have ts := g1.trans (t3.trans (t4.trans (t5.trans M6.tu)))
        exact ⟨_, _, _, _, _, _, st2, .bin o l e1, n1 + 1, r, .ref y, rfl, rfl, hc3, hs2.mono ts, ⟨y, .ref u, kb, rfl, M6.tu _ _ (SqT.of upd_same), ⟨u, xl, xe, rfl, M6.tu _ _ (t5 _ _ (SqT.of upd_same)), hxl.mono ts, hxe.mono ts⟩, hkb⟩, ⟨M6.mo, M5.tu.trans M6.tu⟩⟩
      · refine i_F (decide_eq_false (by omega)) ?_
        refine stop ?_
        show (if least ≤ o.lev then _ else _) = _
        rw [if_neg hle]
end
end Wf


set_option Elab.async false
set_option linter.all false
set_option maxRecDepth 100000
set_option maxHeartbeats 4000000
namespace Wf
open PySem PySem.Spec PyProof.Rows L2
open C8 (pe_gc)
local macro_rules | `(tactic| walk_at "w1") => `(tactic| first
  | with_reducible refine i_seq ?_
  | with_reducible refine i_asg ?_
  | with_reducible refine i_gname ?_
  | ((with_reducible refine' i_var ?ivar ?imain); (case ivar => exact rfl))
  | with_reducible refine i_c ?_
  | with_reducible refine i_op ?_
  | with_reducible refine i_if ?_
  | with_reducible refine i_test ?_
  | with_reducible refine i_tB ?_
  | with_reducible refine i_bl ?_
  | with_reducible refine i_ret ?_
  | with_reducible refine i_retN ?_
  | with_reducible refine i_drop ?_
  | with_reducible refine i_next ?_
  | with_reducible refine i_cons ?_
  | with_reducible refine i_nil ?_
  | with_reducible refine i_cb ?_
  | with_reducible refine i_tup ?_
  | with_reducible refine i_lst ?_
  | with_reducible refine i_fld ?_
  | with_reducible refine i_sfld ?_
  | with_reducible refine i_call ?_
  | with_reducible refine i_meth ?_
  | with_reducible refine i_and ?_
  | with_reducible refine i_or ?_
  | with_reducible refine i_not ?_
  | with_reducible refine i_andV ?_
  | with_reducible refine i_orV ?_
  | with_reducible refine i_notV ?_
  | with_reducible refine i_ifV ?_
  | with_reducible refine i_un ?_
  | with_reducible refine i_neg ?_
  | with_reducible refine i_gcons ?_
  | with_reducible refine i_sl ?_
  | with_reducible refine i_part ?_
  | with_reducible refine i_nopart ?_
  | with_reducible refine i_int ?_
  | with_reducible refine i_inS ?_
  | with_reducible refine i_notInS ?_
  | with_reducible refine i_tyS ?_
  | with_reducible refine i_forL ?_
  | with_reducible refine i_forT ?_
  | with_reducible refine i_forR1 ?_
  | with_reducible refine i_bm ?_
  | with_reducible refine i_bm0 ?_
  | with_reducible refine i_gnil ?_
  | with_reducible refine i_rI0 ?_
  | with_reducible refine i_rIsN ?_
  | with_reducible refine i_rNotN ?_
  | with_reducible refine i_rInt ?_
  | ((with_reducible refine i_rEq ?isc ?imain); (case isc => exact rfl))
  | ((with_reducible refine i_rNe ?isc ?imain); (case isc => exact rfl))
  | with_reducible refine i_T rfl ?_
  | with_reducible refine i_F rfl ?_
  | ((refine' i_T ?icnd ?imain); (case icnd => decide +kernel))
  | ((refine' i_F ?icnd ?imain); (case icnd => decide +kernel))
  | fail)
local macro_rules | `(tactic| walk_at "w") => `(tactic| (repeat' walk_at "w1"))
local macro_rules | `(tactic| walk_at "w0") => `(tactic| (simp only [cxOf, L2.start, List.map_cons, List.map_nil, List.length_cons, List.length_nil, Nat.reduceAdd, Nat.reduceSub, Nat.zero_add, List.replicate_zero, List.replicate_succ, List.cons_append, List.nil_append]))
local macro_rules | `(tactic| walk_at "tk") => `(tactic| (simp only [Tk.sign, Tk.val]))
local macro_rules | `(tactic| walk_at "c") => `(tactic| (dsimp only [List.set_cons_zero, List.set_cons_succ, List.cons_append, List.nil_append]))

local macro_rules | `(tactic| walk_at "m1") => `(tactic| first
  | walk_at "w1"
  | ((with_reducible refine' g_mode ?T ?M ?h); (case T => assumption); (case M => assumption))
  | ((with_reducible refine' g_first ?T ?M ?h); (case T => assumption); (case M => assumption))
  | ((with_reducible refine' g_stack ?T ?M ?h); (case T => assumption); (case M => assumption))
  | ((with_reducible refine' g_made ?T ?M ?h); (case T => assumption); (case M => assumption))
  | ((with_reducible refine' g_word ?T ?M ?h); (case T => assumption); (case M => assumption))
  | ((with_reducible refine' g_place ?T ?M ?h); (case T => assumption); (case M => assumption))
  | ((with_reducible refine' g_over ?T ?M ?h); (case T => assumption); (case M => assumption))
  | ((with_reducible refine' g_metric ?T ?M ?h); (case T => assumption); (case M => assumption))
  | ((with_reducible refine' g_matchers ?T ?M ?h); (case T => assumption); (case M => assumption))
  | ((with_reducible refine' g_label ?T ?M ?h); (case T => assumption); (case M => assumption))
  | ((with_reducible refine' g_inside ?T ?M ?h); (case T => assumption); (case M => assumption))
  | ((with_reducible refine' g_found ?T ?M ?h); (case T => assumption); (case M => assumption))
  | ((with_reducible refine' g_span ?T ?M ?h); (case T => assumption); (case M => assumption))
  | ((with_reducible refine' g_spans ?T ?M ?h); (case T => assumption); (case M => assumption))
  | ((with_reducible refine' g_selectors ?T ?M ?h); (case T => assumption); (case M => assumption))
  | ((with_reducible refine' g_operators ?T ?M ?h); (case T => assumption); (case M => assumption))
  | ((with_reducible refine' g_many ?T ?M ?h); (case T => assumption); (case M => assumption))
  | ((with_reducible refine' g_unkind ?T ?M ?h); (case T => assumption); (case M => assumption))
  | ((with_reducible refine' s_mode ?T ?M ?h); (case T => assumption); (case M => assumption); intro _ _)
  | ((with_reducible refine' s_first ?T ?M ?h); (case T => assumption); (case M => assumption); intro _ _)
  | ((with_reducible refine' s_made ?T ?M ?h); (case T => assumption); (case M => assumption); intro _ _)
  | ((with_reducible refine' s_word ?T ?M ?h); (case T => assumption); (case M => assumption); intro _ _)
  | ((with_reducible refine' s_place ?T ?M ?h); (case T => assumption); (case M => assumption); intro _ _)
  | ((with_reducible refine' s_over ?T ?M ?h); (case T => assumption); (case M => assumption); intro _ _)
  | ((with_reducible refine' s_metric ?T ?M ?h); (case T => assumption); (case M => assumption); intro _ _)
  | ((with_reducible refine' s_label ?T ?M ?h); (case T => assumption); (case M => assumption); intro _ _)
  | ((with_reducible refine' s_inside ?T ?M ?h); (case T => assumption); (case M => assumption); intro _ _)
  | ((with_reducible refine' s_span ?T ?M ?h); (case T => assumption); (case M => assumption); intro _ _)
  | ((with_reducible refine' s_selectors ?T ?M ?h); (case T => assumption); (case M => assumption); intro _ _)
  | ((with_reducible refine' s_operators ?T ?M ?h); (case T => assumption); (case M => assumption); intro _ _)
  | ((with_reducible refine' g_meth ?M ?l ?h); (case M => assumption); (case l => first | exact nol_turn _ | exact nol_finish_operand _ | exact nol_begin_selector _ | exact nol_finish_selector _ | exact nol_finish_over _ | exact nol_add_matcher _ | exact nol_judge _ | exact nol_combine _ | exact nol_close _ | exact nol_open_aggregate _ | exact nol_end_named _ | exact nol_has_open _ | exact nol_can_end _))
  | fail)
local macro_rules | `(tactic| walk_at "m") => `(tactic| (repeat' walk_at "m1"))

section
variable {P : Program} {w : World} {K : PySem.W.Frag} {mg : Str → Option Value} {base : Heap} {H0 Hb H : Hp} {p : Addr} {m : MF} {a b c d : List V}
theorem c_turn' (M : MT K H0 Hb H p m a b c d) {s : Str} {R : VK} {E : XK} (h : ∀ H', TupLe K H H' → MT K H0 Hb H' p { m with mode := s } a b c d → R (.bl true) H') : spTurn K [.ref p, .str s] H R E :=
  ⟨H0, p, m, a, b, c, d, s, rfl, M.mo, fun H' M' => h H' M'.tu (M.step M')⟩
/-! close -/
def CloseTo (st : List Ent) (e : Ex) (n : Nat) (st2 : List Ent) (e2 : Ex) (n2 : Nat) : Prop :=
  comb 0 st e n = some (.open :: st2, e2, n2) ∨ ∃ (aw : Aw) (ns : List Str) (e' : Ex) (n' : Nat), comb 0 st e n = some (.agg aw ns :: st2, e', n') ∧ e'.kd = some true ∧ e2 = .agg aw ns e' ∧ n2 = n' + 1
def spClose (K : PySem.W.Frag) : Sp := fun vs H Q _ => ∃ (H0 : Hp) (p : Addr) (m : MF) (a b c d : List V) (st st2 : List Ent) (e e2 : Ex) (n n2 : Nat), vs = [.ref p] ∧ MO K H0 H p m a b c d ∧
  StR K H st a ∧ MadeR K H e m.made ∧ m.ops = n ∧ CloseTo st e n st2 e2 n2 ∧
  ∀ H' a' md, StR K H' st2 a' → MadeR K H' e2 md → MT K H0 H H' p { m with made := md, ops := n2, mode := "done" } a' b c d → Q (.bl true) H'
theorem c_close (M : MT K H0 Hb H p m a b c d) {st st2 : List Ent} {e e2 : Ex} {n n2 : Nat} (h1 : StR K H st a) (h2 : MadeR K H e m.made) (h3 : m.ops = n) (h4 : CloseTo st e n st2 e2 n2) {R : VK} {E : XK}
    (h : ∀ H' a' md, StR K H' st2 a' → MadeR K H' e2 md → TupLe K H H' → MT K H0 Hb H' p { m with made := md, ops := n2, mode := "done" } a' b c d → R (.bl true) H') : spClose K [.ref p] H R E :=
  ⟨H0, p, m, a, b, c, d, st, st2, e, e2, n, n2, rfl, M.mo, h1, h2, h3, h4, fun H' a' md s1 s2 M' => h H' a' md s1 s2 M'.tu (M.step M')⟩
theorem sc_M_close : FnScope (["self", "top", "_", "word", "names", "place", "kind"] : List Str) (["self"] : List Str) (defScope s_M_close) := ⟨rfl, rfl, rfl, by decide +kernel, rfl, by decide +kernel, by decide +kernel⟩
theorem k_close (T : Txt w K mg) : Met P w K mg base 3 "close" (spClose K) := by
  have G_judge := k_judge (P := P) (base := base) T
  have G_turn := k_turn (P := P) (base := base) T
  have G_combine := k_combine (P := P) (base := base) T
  obtain ⟨fd, F⟩ := T.d_M_close
  refine ⟨_, fd, ["self"], T.cl, T.m_close, fn_ok F sc_M_close (fun vs H Q E h => ?_) (fun cdv A outer s H vs Q E hr h => ?_), F.bindsN (fun _ _ _ _ _ _ us hl => match us, hl with | [_], _ => rfl)⟩
  · obtain ⟨_, _, _, _, _, _, _, _, _, _, _, _, _, rfl, _⟩ := h
    rfl
  obtain ⟨H0, p, m, a, b, c, d, st, st2, e, e2, n, n2, rfl, M, hst, hmd, hn, hc, q⟩ := h
  refine ⟨_, (pss_cons (ps_expr (pe_mt G_combine hr (by omega) (pv 0) (pa_cons pe_int pa_nil)))
    (pss_cons (ps_if (pt_not (pt_truth (pe_fld (pv 0) rfl) (by intro _; rfl))) (pss_one (ps_ret pe_bl)) pss_nil)
    (pss_cons (ps_set (i := 1) sc_M_close.nd rfl (by first | exact Or.inl rfl | exact Or.inr rfl) (pe_bm0 PySem.F.plainAttrs_list PySem.F.slot_list_pop PySem.F.type_list_pop mt_pop (pe_fld (pv 0) rfl)))
    (pss_cons (ps_if (pt_cmpR op_eq (pe_ix ix_tup (pv 1) pe_int (fun _ _ => rfl)) pe_str (nomark _)) (pss_cons (ps_asg (pv 1) (pg_tup (by rfl) (pgs_cons (pg_name (i := 2) sc_M_close.nd rfl (by first | exact Or.inl rfl | exact Or.inr rfl)) (pgs_cons (pg_name (i := 3) sc_M_close.nd rfl (by first | exact Or.inl rfl | exact Or.inr rfl)) (pgs_cons (pg_name (i := 4) sc_M_close.nd rfl (by first | exact Or.inl rfl | exact Or.inr rfl)) (pgs_cons (pg_name (i := 5) sc_M_close.nd rfl (by first | exact Or.inl rfl | exact Or.inr rfl)) pgs_nil))))))
    (pss_cons (ps_set (i := 6) sc_M_close.nd rfl (by first | exact Or.inl rfl | exact Or.inr rfl) pe_non)
    (pss_cons (ps_if (pt_cmpR op_eq (pe_ix ix_tup (pe_fld (pv 0) rfl) pe_int (fun _ _ => rfl)) pe_str (nomark _)) (pss_one (ps_set (i := 6) sc_M_close.nd rfl (by first | exact Or.inl rfl | exact Or.inr rfl) pe_str)) pss_nil)
    (pss_cons (ps_expr (pe_mt G_judge hr (by omega) (pv 0) (pa_cons (pv 6) (pa_cons (pe_cmpR op_notN' (pe_ix ix_tup (pe_fld (pv 0) rfl) pe_int (fun _ _ => rfl)) pe_non (nomark _)) (pa_cons (pv 5) pa_nil)))))
    (pss_one (ps_fld (pv 0) (pe_tup (pa_cons (pe_tup (pa_cons pe_str (pa_cons (pv 3) (pa_cons (pv 4) (pa_cons (pe_ix ix_tup (pe_fld (pv 0) rfl) pe_int (fun _ _ => rfl)) pa_nil))))) (pa_cons (pv 6) pa_nil))) rfl)))))) pss_nil)
    (pss_one (ps_ret (pe_mt G_turn hr (by omega) (pv 0) (pa_cons pe_str pa_nil)))))))), ?_⟩
  have M0 := MT.start M
  walk_at "w0"
  walk_at "m"
  rcases hc with hc | ⟨aw, ns, e', n', hc, hk, rfl, rfl⟩
  · refine c_comb (least := 0) M0 hst hmd hn hc fun H1 a1 md s1 m1 t1 M1 => ?_
    obtain ⟨r, v, rfl, hen, hs2⟩ := s1
    obtain ⟨t, rfl, ht⟩ := hen
    walk_at "m"
    refine i_tru (SqL.of M1.mo.st) ?_
    refine i_F (by simp) ?_
    walk_at "m"
    refine i_tyL (SqL.of M1.mo.st) ?_
    refine i_popM M1 fun H2 g1 M2 => ?_
    walk_at "m"
    refine i_rIxT (g1 _ _ ht) atI_0 ?_
    walk_at "m"
    refine c_turn' M2 fun H' t2 M' => ?_
    exact q H' r md (hs2.mono (g1.trans t2)) (m1.mono (g1.trans t2)) M'
  · refine c_comb (least := 0) M0 hst hmd hn hc fun H1 a1 md s1 m1 t1 M1 => ?_
    obtain ⟨r, v, rfl, hen, hs2⟩ := s1
    obtain ⟨t, u, pl, rfl, ht, hu⟩ := hen
    obtain ⟨te, xe, ke, rfl, hte, hxe, hke⟩ := m1
    have ek : ke = true := by
      rw [hke] at hk
      exact Option.some.inj hk
    subst ek
    walk_at "m"
    refine i_tru (SqL.of M1.mo.st) ?_
    refine i_F (by simp) ?_
    walk_at "m"
    refine i_tyL (SqL.of M1.mo.st) ?_
    refine i_popM M1 fun H2 g1 M2 => ?_
    walk_at "m"
    refine i_rIxT (g1 _ _ ht) atI_0 ?_
    walk_at "m"
    refine i_gtup (g1 _ _ ht) rfl ?_
    walk_at "m"
    refine i_rIxT (g1 _ _ hte) atI_1 ?_
    walk_at "m"
    refine i_rIxT (g1 _ _ hte) atI_1 ?_
    walk_at "m"
    refine c_judge M2 (by intro z; cases z) fun H3 t3 M3 => ?_
    walk_at "m"
    refine i_rIxT (t3 _ _ (g1 _ _ hte)) atI_0 ?_
    walk_at "m"
    refine ⟨le_line (by decide : 4 ≤ 100000), fun x hx => ?_⟩
    have t4 := tup_new (K := K) (o := .tup [.str "aggregate", .str aw.str, .ref u, xe]) hx
    have M4 := M3.grow (o := .tup [.str "aggregate", .str aw.str, .ref u, xe]) hx
    walk_at "m"
    refine ⟨le_line (by decide : 2 ≤ 100000), fun y hy => ?_⟩
    have t5 := tup_new (K := K) (o := .tup [.ref x, .str "vector"]) hy
    have M5 := M4.grow (o := .tup [.ref x, .str "vector"]) hy
    have M5' := MT.start M5.mo
    walk_at "m"
    rename_i H6 M6
    refine c_turn' M6 fun H' t7 M7 => ?_
    have ts := g1.trans (t3.trans (t4.trans (t5.trans M7.tu)))
    refine q H' r (.ref y) (hs2.mono ts) ⟨y, .ref x, true, rfl, M7.tu _ _ (SqT.of upd_same), ⟨x, u, xe, rfl, M7.tu _ _ (t5 _ _ (SqT.of upd_same)), ts _ _ hu, hxe.mono ts⟩, ?_⟩ ⟨M7.mo, M5.tu.trans M7.tu⟩
    show (if e'.kd = some true then some true else none) = some true
    rw [if_pos hk]
/-! open_aggregate -/
def spOpenA (K : PySem.W.Frag) : Sp := fun vs H Q _ => ∃ (H0 : Hp) (p q : Addr) (m : MF) (a b c d xs : List V), vs = [.ref p, .ref q] ∧ MO K H0 H p m a b c d ∧ SqL K H q xs ∧ xs.length ≤ 6 ∧ a.length ≤ 1000 ∧
  ∀ H' t u, SqT K H' u xs → SqT K H' t [.str "aggregate", .str m.word, .ref u, .int m.place] → MT K H0 H H' p { m with mode := "operand" } (a ++ [.ref t]) b c d → Q (.bl true) H'
theorem c_openA (M : MT K H0 Hb H p m a b c d) {q : Addr} {xs : List V} (hq : SqL K H q xs) (hx : xs.length ≤ 6) (ha : a.length ≤ 1000) {R : VK} {E : XK}
    (h : ∀ H' t u, SqT K H' u xs → SqT K H' t [.str "aggregate", .str m.word, .ref u, .int m.place] → TupLe K H H' → MT K H0 Hb H' p { m with mode := "operand" } (a ++ [.ref t]) b c d → R (.bl true) H') : spOpenA K [.ref p, .ref q] H R E :=
  ⟨H0, p, q, m, a, b, c, d, xs, rfl, M.mo, hq, hx, ha, fun H' t u h1 h2 M' => h H' t u h1 h2 M'.tu (M.step M')⟩
theorem sc_M_open_aggregate : FnScope (["self", "names"] : List Str) (["self", "names"] : List Str) (defScope s_M_open_aggregate) := ⟨rfl, rfl, rfl, by decide +kernel, rfl, by decide +kernel, by decide +kernel⟩
theorem k_open_aggregate (T : Txt w K mg) : Met P w K mg base 2 "open_aggregate" (spOpenA K) := by
  have G_turn := k_turn (P := P) (base := base) T
  obtain ⟨fd, F⟩ := T.d_M_open_aggregate
  refine ⟨_, fd, ["self", "names"], T.cl, T.m_open_aggregate, fn_ok F sc_M_open_aggregate (fun vs H Q E h => ?_) (fun cdv A outer s H vs Q E hr h => ?_), F.bindsN (fun _ _ _ _ _ _ us hl => match us, hl with | [_, _], _ => rfl)⟩
  · obtain ⟨_, _, _, _, _, _, _, _, _, rfl, _⟩ := h
    rfl
  obtain ⟨H0, p, l, m, a, b, c, d, xs, rfl, M, hl, hx, ha, q⟩ := h
  refine ⟨_, (pss_cons (ps_if (pt_cmpR op_gt (pe_callB call_len' rfl T.z_len PySem.boot_len (pa_cons (pv 1) pa_nil)) (pe_gc rfl T.c_MOST) (nomark _)) (pss_one (ps_fld (pv 0) pe_bl rfl)) pss_nil)
    (pss_cons (ps_expr (pe_bm PySem.F.plainAttrs_list PySem.F.slot_list_append PySem.F.type_list_append mt_append (pe_fld (pv 0) rfl) (pa_cons (pe_tup (pa_cons pe_str (pa_cons (pe_fld (pv 0) rfl) (pa_cons (pe_callTy call_tuple' rfl T.z_tuple (by decide +kernel) (pa_cons (pv 1) pa_nil)) (pa_cons (pe_fld (pv 0) rfl) pa_nil))))) pa_nil)))
    (pss_one (ps_ret (pe_mt G_turn hr (by omega) (pv 0) (pa_cons pe_str pa_nil)))))), ?_⟩
  have M0 := MT.start M
  walk_at "w0"
  walk_at "m"
  refine i_rLen (.inl hl) ?_
  walk_at "m"
  refine i_F (decide_eq_false (by omega)) ?_
  walk_at "m"
  refine i_tyL (SqL.of M.st) ?_
  walk_at "m"
  refine i_rTupL hl fun u hu => ?_
  have g1 := tup_new (K := K) (o := .tup xs) hu
  have M1 := MT.start (M.grow (o := .tup xs) hu)
  walk_at "m"
  refine ⟨le_line (by decide : 4 ≤ 100000), fun t ht => ?_⟩
  have t1 := tup_new (K := K) (o := .tup [.str "aggregate", .str m.word, .ref u, .int m.place]) ht
  have M2 := MT.start (M1.mo.grow (o := .tup [.str "aggregate", .str m.word, .ref u, .int m.place]) ht)
  walk_at "m"
  refine i_append M2.mo.st (lt_line (by omega)) ?_
  have M3 := M2.setSt (xs := a ++ [.ref t])
  walk_at "m"
  refine c_turn M3 fun H' M' => ?_
  exact q H' t u (M'.tu _ _ (t1 _ _ (SqT.of upd_same))) (M'.tu _ _ (SqT.of upd_same)) ⟨M'.mo, g1.trans (t1.trans M'.tu)⟩
/-! end_named -/
def spEndN (K : PySem.W.Frag) : Sp := fun vs H Q _ => ∃ (H0 : Hp) (p : Addr) (m : MF) (a b c d : List V), vs = [.ref p] ∧ MO K H0 H p m a b c d ∧
  (m.mode = "named" → ∀ H' q v, MadeR K H' (.latest m.word []) v → MT K H0 H H' p { m with over := "", metric := m.word, ma := q, sel := m.sel + 1, made := v, mode := "done" } a [] c d → Q .non H') ∧
  (m.mode ≠ "named" → Q .non H)
theorem c_endN (M : MT K H0 Hb H p m a b c d) (hm : m.mode = "named") {R : VK} {E : XK}
    (h : ∀ H' q v, MadeR K H' (.latest m.word []) v → TupLe K H H' → MT K H0 Hb H' p { m with over := "", metric := m.word, ma := q, sel := m.sel + 1, made := v, mode := "done" } a [] c d → R .non H') : spEndN K [.ref p] H R E :=
  ⟨H0, p, m, a, b, c, d, rfl, M.mo, fun _ H' q v h1 M' => h H' q v h1 M'.tu (M.step M'), fun n => absurd hm n⟩
theorem c_endN0 (M : MT K H0 Hb H p m a b c d) (hm : m.mode ≠ "named") {R : VK} {E : XK} (h : R .non H) : spEndN K [.ref p] H R E :=
  ⟨H0, p, m, a, b, c, d, rfl, M.mo, fun n => absurd n hm, fun _ => h⟩
theorem sc_M_end_named : FnScope (["self"] : List Str) (["self"] : List Str) (defScope s_M_end_named) := ⟨rfl, rfl, rfl, by decide +kernel, rfl, by decide +kernel, by decide +kernel⟩
theorem k_end_named (T : Txt w K mg) : Met P w K mg base 4 "end_named" (spEndN K) := by
  have G_begin_selector := k_begin_selector (P := P) (base := base) T
  have G_finish_selector := k_finish_selector (P := P) (base := base) T
  obtain ⟨fd, F⟩ := T.d_M_end_named
  refine ⟨_, fd, ["self"], T.cl, T.m_end_named, fn_ok F sc_M_end_named (fun vs H Q E h => ?_) (fun cdv A outer s H vs Q E hr h => ?_), F.bindsN (fun _ _ _ _ _ _ us hl => match us, hl with | [_], _ => rfl)⟩
  · obtain ⟨_, _, _, _, _, _, _, rfl, _⟩ := h
    rfl
  obtain ⟨H0, p, m, a, b, c, d, rfl, M, q1, q2⟩ := h
  refine ⟨_, (pss_one (ps_if (pt_cmpR op_eq (pe_fld (pv 0) rfl) pe_str (nomark _)) (pss_cons (ps_expr (pe_mt G_begin_selector hr (by omega) (pv 0) (pa_cons pe_str (pa_cons (pe_fld (pv 0) rfl) pa_nil))))
    (pss_one (ps_expr (pe_mt0 G_finish_selector hr (by omega) (pv 0))))) pss_nil)), ?_⟩
  have M0 := MT.start M
  walk_at "w0"
  walk_at "m"
  by_cases hm : m.mode = "named"
  · refine i_T (by rw [hm]; decide +kernel) ?_
    walk_at "m"
    refine c_begin M0 fun H1 r t1 M1 => ?_
    walk_at "m"
    refine c_finSel M1 (Nat.zero_le _) rfl fun H' t u s h1 h2 h3 t2 M' => ?_
    walk_at "m"
    exact q1 hm H' r (.ref t) ⟨t, .ref u, true, rfl, h3, ⟨u, s, [], rfl, h2, h1, rfl⟩, rfl⟩ M'
  · refine i_F (decide_eq_false (fun e => hm (V.str.inj e))) ?_
    walk_at "m"
    exact q2 hm
/-! has_open, can_end -/
def AllInf (st : List Ent) : Prop := ∀ e ∈ st, ∃ o l, e = .inf o l
def spHasO (K : PySem.W.Frag) : Sp := fun vs H Q _ => ∃ (H0 : Hp) (p : Addr) (m : MF) (a b c d : List V) (st : List Ent), vs = [.ref p] ∧ MO K H0 H p m a b c d ∧ StR K H st a ∧ AllInf st ∧ Q (.bl false) H
theorem StR.at_ {st : List Ent} : ∀ {a : List V} {i : Nat} {v : V}, StR K H st a → a[i]? = some v → ∃ e ∈ st, EntR K H e v := by
  induction st with
  | nil =>
    intro a i v h e
    rw [show a = [] from h] at e
    cases e
  | cons x st ih =>
    intro a i v h e
    obtain ⟨r, y, rfl, h1, h2⟩ := h
    by_cases hi : i < r.length
    · rw [List.getElem?_append_left hi] at e
      obtain ⟨z, hz, h3⟩ := ih h2 e
      exact ⟨z, List.mem_cons_of_mem _ hz, h3⟩
    · have hi2 : i = r.length := by
        have := (List.getElem?_eq_some_iff.mp e).1
        rw [List.length_append] at this
        simp at this
        omega
      subst hi2
      rw [List.getElem?_concat_length] at e
      cases e
      exact ⟨x, List.mem_cons_self, h1⟩
theorem sc_M_has_open : FnScope (["self", "entry"] : List Str) (["self"] : List Str) (defScope s_M_has_open) := ⟨rfl, rfl, rfl, by decide +kernel, rfl, by decide +kernel, by decide +kernel⟩
theorem k_has_open (T : Txt w K mg) : Met P w K mg base 1 "has_open" (spHasO K) := by
  obtain ⟨fd, F⟩ := T.d_M_has_open
  refine ⟨_, fd, ["self"], T.cl, T.m_has_open, fn_ok F sc_M_has_open (fun vs H Q E h => ?_) (fun cdv A outer s H vs Q E hr h => ?_), F.bindsN (fun _ _ _ _ _ _ us hl => match us, hl with | [_], _ => rfl)⟩
  · obtain ⟨_, _, _, _, _, _, _, _, rfl, _⟩ := h
    rfl
  obtain ⟨H0, p, m, a, b, c, d, st, rfl, M, hst, hall, q⟩ := h
  refine ⟨_, (pss_cons (ps_for PassesOwn.never rfl (pi_list (pe_fld (pv 0) rfl)) (pg_name (i := 1) sc_M_has_open.nd rfl (by first | exact Or.inl rfl | exact Or.inr rfl)) (pss_one (ps_if (pt_cmpR op_ne (pe_ix ix_tup (pv 1) pe_int (fun _ _ => rfl)) pe_str (nomark _)) (pss_one (ps_ret pe_bl)) pss_nil)))
    (pss_one (ps_ret pe_bl))), ?_⟩
  have M0 := MT.start M
  walk_at "w0"
  walk_at "m"
  refine i_listW (SqL.of M.st) (i_list (xs := a) (fun i σ H1 => ∃ x1, σ = [some (.ref p), x1] ∧ H1 = H) ⟨none, rfl, rfl⟩ (fun i σ H1 _ ⟨_, _, e⟩ => by rw [e]; exact SqL.of M.st) ?_ ?_)
  · rintro i x σ H1 hx ⟨x1, rfl, rfl⟩
    obtain ⟨e, he, hen⟩ := hst.at_ hx
    obtain ⟨o, l, rfl⟩ := hall e he
    obtain ⟨t, xl, pl, rfl, ht, _⟩ := hen
    walk_at "w"
    refine i_rIxT ht atI_0 ?_
    walk_at "w"
    exact ⟨some (.ref t), rfl, rfl⟩
  · rintro σ H1 ⟨x1, rfl, rfl⟩
    walk_at "w"
    exact q
def spCanE (K : PySem.W.Frag) : Sp := fun vs H Q _ => ∃ (H0 : Hp) (p : Addr) (m : MF) (a b c d : List V) (st : List Ent), vs = [.ref p] ∧ MO K H0 H p m a b c d ∧ StR K H st a ∧ AllInf st ∧ (m.mode = "named" ∨ m.mode = "done") ∧
  ∀ H', MT K H0 H H' p m a b c d → Q (.bl true) H'
theorem sc_M_can_end : FnScope (["self"] : List Str) (["self"] : List Str) (defScope s_M_can_end) := ⟨rfl, rfl, rfl, by decide +kernel, rfl, by decide +kernel, by decide +kernel⟩
theorem k_can_end (T : Txt w K mg) : Met P w K mg base 2 "can_end" (spCanE K) := by
  have G_has_open := k_has_open (P := P) (base := base) T
  obtain ⟨fd, F⟩ := T.d_M_can_end
  refine ⟨_, fd, ["self"], T.cl, T.m_can_end, fn_ok F sc_M_can_end (fun vs H Q E h => ?_) (fun cdv A outer s H vs Q E hr h => ?_), F.bindsN (fun _ _ _ _ _ _ us hl => match us, hl with | [_], _ => rfl)⟩
  · obtain ⟨_, _, _, _, _, _, _, _, rfl, _⟩ := h
    rfl
  obtain ⟨H0, p, m, a, b, c, d, st, rfl, M, hst, hall, hmode, q⟩ := h
  refine ⟨_, (pss_one (ps_ret (pe_and (pe_cmpR op_in_seq (pe_fld (pv 0) rfl) (pe_tup (pa_cons pe_str (pa_cons pe_str pa_nil))) rfl) (pe_one (pe_not (pe_mt0 G_has_open hr (by omega) (pv 0))))))), ?_⟩
  have M0 := MT.start M
  walk_at "w0"
  walk_at "m"
  refine ⟨le_line (by decide : 2 ≤ 100000), fun t ht => ?_⟩
  have t1 := tup_new (K := K) (o := .tup [.str "named", .str "done"]) ht
  have M1 := M0.grow (o := .tup [.str "named", .str "done"]) ht
  refine i_rIn (.inr (SqT.of upd_same)) rfl rfl ?_
  walk_at "m"
  refine i_T (by rcases hmode with e | e <;> (rw [e]; decide +kernel)) ?_
  walk_at "m"
  refine ⟨H0, p, m, a, b, c, d, st, rfl, M1.mo, hst.mono t1, hall, ?_⟩
  walk_at "m"
  exact q _ M1
end
end Wf


set_option Elab.async false
set_option linter.all false
set_option maxRecDepth 100000
set_option maxHeartbeats 4000000
namespace Wf
open PySem PySem.Spec PyProof.Rows L2
open C8 (pe_gc)
local macro_rules | `(tactic| walk_at "w1") => `(tactic| first
  | with_reducible refine i_seq ?_
  | with_reducible refine i_asg ?_
  | with_reducible refine i_gname ?_
  | ((with_reducible refine' i_var ?ivar ?imain); (case ivar => exact rfl))
  | with_reducible refine i_c ?_
  | with_reducible refine i_op ?_
  | with_reducible refine i_if ?_
  | with_reducible refine i_test ?_
  | with_reducible refine i_tB ?_
  | with_reducible refine i_bl ?_
  | with_reducible refine i_ret ?_
  | with_reducible refine i_retN ?_
  | with_reducible refine i_drop ?_
  | with_reducible refine i_next ?_
  | with_reducible refine i_cons ?_
  | with_reducible refine i_nil ?_
  | with_reducible refine i_cb ?_
  | with_reducible refine i_tup ?_
  | with_reducible refine i_lst ?_
  | with_reducible refine i_fld ?_
  | with_reducible refine i_sfld ?_
  | with_reducible refine i_call ?_
  | with_reducible refine i_meth ?_
  | with_reducible refine i_and ?_
  | with_reducible refine i_or ?_
  | with_reducible refine i_not ?_
  | with_reducible refine i_andV ?_
  | with_reducible refine i_orV ?_
  | with_reducible refine i_notV ?_
  | with_reducible refine i_ifV ?_
  | with_reducible refine i_un ?_
  | with_reducible refine i_neg ?_
  | with_reducible refine i_gcons ?_
  | with_reducible refine i_sl ?_
  | with_reducible refine i_part ?_
  | with_reducible refine i_nopart ?_
  | with_reducible refine i_int ?_
  | with_reducible refine i_inS ?_
  | with_reducible refine i_notInS ?_
  | with_reducible refine i_tyS ?_
  | with_reducible refine i_forL ?_
  | with_reducible refine i_forT ?_
  | with_reducible refine i_forR1 ?_
  | with_reducible refine i_bm ?_
  | with_reducible refine i_bm0 ?_
  | with_reducible refine i_gnil ?_
  | with_reducible refine i_rI0 ?_
  | with_reducible refine i_rIsN ?_
  | with_reducible refine i_rNotN ?_
  | with_reducible refine i_rInt ?_
  | ((with_reducible refine i_rEq ?isc ?imain); (case isc => exact rfl))
  | ((with_reducible refine i_rNe ?isc ?imain); (case isc => exact rfl))
  | with_reducible refine i_T rfl ?_
  | with_reducible refine i_F rfl ?_
  | ((refine' i_T ?icnd ?imain); (case icnd => decide +kernel))
  | ((refine' i_F ?icnd ?imain); (case icnd => decide +kernel))
  | fail)
local macro_rules | `(tactic| walk_at "w") => `(tactic| (repeat' walk_at "w1"))
local macro_rules | `(tactic| walk_at "w0") => `(tactic| (simp only [cxOf, L2.start, List.map_cons, List.map_nil, List.length_cons, List.length_nil, Nat.reduceAdd, Nat.reduceSub, Nat.zero_add, List.replicate_zero, List.replicate_succ, List.cons_append, List.nil_append]))
local macro_rules | `(tactic| walk_at "tk") => `(tactic| (simp only [Tk.sign, Tk.val]))
local macro_rules | `(tactic| walk_at "c") => `(tactic| (dsimp only [List.set_cons_zero, List.set_cons_succ, List.cons_append, List.nil_append]))

local macro_rules | `(tactic| walk_at "m1") => `(tactic| first
  | walk_at "w1"
  | ((with_reducible refine' g_mode ?T ?M ?h); (case T => assumption); (case M => assumption))
  | ((with_reducible refine' g_first ?T ?M ?h); (case T => assumption); (case M => assumption))
  | ((with_reducible refine' g_stack ?T ?M ?h); (case T => assumption); (case M => assumption))
  | ((with_reducible refine' g_made ?T ?M ?h); (case T => assumption); (case M => assumption))
  | ((with_reducible refine' g_word ?T ?M ?h); (case T => assumption); (case M => assumption))
  | ((with_reducible refine' g_place ?T ?M ?h); (case T => assumption); (case M => assumption))
  | ((with_reducible refine' g_over ?T ?M ?h); (case T => assumption); (case M => assumption))
  | ((with_reducible refine' g_metric ?T ?M ?h); (case T => assumption); (case M => assumption))
  | ((with_reducible refine' g_matchers ?T ?M ?h); (case T => assumption); (case M => assumption))
  | ((with_reducible refine' g_label ?T ?M ?h); (case T => assumption); (case M => assumption))
  | ((with_reducible refine' g_inside ?T ?M ?h); (case T => assumption); (case M => assumption))
  | ((with_reducible refine' g_found ?T ?M ?h); (case T => assumption); (case M => assumption))
  | ((with_reducible refine' g_span ?T ?M ?h); (case T => assumption); (case M => assumption))
  | ((with_reducible refine' g_spans ?T ?M ?h); (case T => assumption); (case M => assumption))
  | ((with_reducible refine' g_selectors ?T ?M ?h); (case T => assumption); (case M => assumption))
  | ((with_reducible refine' g_operators ?T ?M ?h); (case T => assumption); (case M => assumption))
  | ((with_reducible refine' g_many ?T ?M ?h); (case T => assumption); (case M => assumption))
  | ((with_reducible refine' g_unkind ?T ?M ?h); (case T => assumption); (case M => assumption))
  | ((with_reducible refine' s_mode ?T ?M ?h); (case T => assumption); (case M => assumption); intro _ _)
  | ((with_reducible refine' s_first ?T ?M ?h); (case T => assumption); (case M => assumption); intro _ _)
  | ((with_reducible refine' s_made ?T ?M ?h); (case T => assumption); (case M => assumption); intro _ _)
  | ((with_reducible refine' s_word ?T ?M ?h); (case T => assumption); (case M => assumption); intro _ _)
  | ((with_reducible refine' s_place ?T ?M ?h); (case T => assumption); (case M => assumption); intro _ _)
  | ((with_reducible refine' s_over ?T ?M ?h); (case T => assumption); (case M => assumption); intro _ _)
  | ((with_reducible refine' s_metric ?T ?M ?h); (case T => assumption); (case M => assumption); intro _ _)
  | ((with_reducible refine' s_label ?T ?M ?h); (case T => assumption); (case M => assumption); intro _ _)
  | ((with_reducible refine' s_inside ?T ?M ?h); (case T => assumption); (case M => assumption); intro _ _)
  | ((with_reducible refine' s_span ?T ?M ?h); (case T => assumption); (case M => assumption); intro _ _)
  | ((with_reducible refine' s_selectors ?T ?M ?h); (case T => assumption); (case M => assumption); intro _ _)
  | ((with_reducible refine' s_operators ?T ?M ?h); (case T => assumption); (case M => assumption); intro _ _)
  | ((with_reducible refine' g_meth ?M ?l ?h); (case M => assumption); (case l => first | exact nol_turn _ | exact nol_finish_operand _ | exact nol_begin_selector _ | exact nol_finish_selector _ | exact nol_finish_over _ | exact nol_add_matcher _ | exact nol_judge _ | exact nol_combine _ | exact nol_close _ | exact nol_open_aggregate _ | exact nol_end_named _ | exact nol_has_open _ | exact nol_can_end _))
  | fail)
local macro_rules | `(tactic| walk_at "m") => `(tactic| (repeat' walk_at "m1"))

section
variable {P : Program} {w : World} {K : PySem.W.Frag} {mg : Str → Option Value} {base : Heap} {H0 Hb H : Hp} {p : Addr} {m : MF} {a b c d : List V}
/-! ### the machine in a mode -/
def oStr : Option Ow → Str
  | none => ""
  | some o => o.str
theorem ow_ne (o : Ow) : o.str ≠ "" := by cases o <;> decide +kernel
section
variable (K : PySem.W.Frag) (H : Hp) (m : MF) (b c : List V)
structure SelR (o : Option Ow) (me : Str) (ms : List Mat) : Prop where
  over : m.over = oStr o
  metric : m.metric = me
  len : ms.length = b.length
  mats : MatsR K H ms b
structure ValR (o : Option Ow) (me : Str) (ms : List Mat) (l : Str) (z : Bool) (fo : List Str) : Prop where
  sel : SelR K H m b o me ms
  label : m.label = l
  inside : m.inside = z
  found : c = fo.map V.str
def MdR : Md → Prop
  | .operand => True
  | .negative => True
  | .done => True
  | .named w => m.word = w
  | .overMetric o => m.word = o.str
  | .overNamed o me => SelR K H m b (some o) me []
  | .label o me ms => SelR K H m b o me ms
  | .test o me ms l => SelR K H m b o me ms ∧ m.label = l
  | .notIn o me ms l => ValR K H m b c o me ms l false []
  | .value o me ms l z => ValR K H m b c o me ms l z []
  | .listOpen o me ms l z => ValR K H m b c o me ms l z []
  | .item o me ms l z fo => ValR K H m b c o me ms l z fo
  | .itemEnd o me ms l z fo => ValR K H m b c o me ms l z fo
  | .matched o me ms => SelR K H m b o me ms
  | .rangeOpen o me ms => SelR K H m b (some o) me ms
  | .span o me ms => SelR K H m b (some o) me ms
  | .spanEnd o me ms n => SelR K H m b (some o) me ms ∧ m.span = n
  | .overClose o me ms n => SelR K H m b (some o) me ms ∧ m.span = n
  | .byOpen aw => m.word = aw.str
  | .byName aw fo => m.word = aw.str ∧ c = fo.map V.str
  | .byEnd aw fo => m.word = aw.str ∧ c = fo.map V.str
  | .aggOpen aw fo => m.word = aw.str ∧ c = fo.map V.str
end
def SpanR (K : PySem.W.Frag) (H : Hp) (d : List V) : Prop := ∀ v ∈ d, ∃ (t : Addr) (n pl : Int), v = .ref t ∧ SqT K H t [.int n, .int pl] ∧ 1 ≤ n ∧ n ≤ 1000
structure CoR (K : PySem.W.Frag) (H : Hp) (m : MF) (a d : List V) (co : Core) : Prop where
  st : StR K H co.stack a
  made : ∀ e, co.made = some e → MadeR K H e m.made
  sel : m.sel = co.sel
  ops : m.ops = co.ops
  spans : SpanR K H d
  len : d.length = co.spans
/-- the machine at p is in the mode md and holds co -/
def MA (K : PySem.W.Frag) (H0 H : Hp) (p : Addr) (md : Md) (co : Core) : Prop := ∃ (m : MF) (a b c d : List V), MO K H0 H p m a b c d ∧ m.mode = md.str ∧ MdR K H m b c md ∧ CoR K H m a d co
section
variable {H' : Hp} {co : Core} {m' : MF}
theorem SpanR.mono (t : TupLe K H H') (h : SpanR K H d) : SpanR K H' d := fun v hv => by
  obtain ⟨u, n, pl, h1, h2, h3⟩ := h v hv
  exact ⟨u, n, pl, h1, t _ _ h2, h3⟩
theorem CoR.mono (t : TupLe K H H') (h : CoR K H m a d co) (e1 : m'.made = m.made) (e2 : m'.sel = m.sel) (e3 : m'.ops = m.ops) : CoR K H' m' a d co :=
  ⟨h.st.mono t, fun e he => by rw [e1]; exact (h.made e he).mono t, by rw [e2]; exact h.sel, by rw [e3]; exact h.ops, h.spans.mono t, h.len⟩
theorem SelR.mono (t : TupLe K H H') {o : Option Ow} {me : Str} {ms : List Mat} (h : SelR K H m b o me ms) (e1 : m'.over = m.over) (e2 : m'.metric = m.metric) : SelR K H' m' b o me ms := ⟨by rw [e1]; exact h.over, by rw [e2]; exact h.metric, h.len, h.mats.mono t⟩
theorem ValR.mono (t : TupLe K H H') {o : Option Ow} {me l : Str} {ms : List Mat} {z : Bool} {fo : List Str} (h : ValR K H m b c o me ms l z fo) (e1 : m'.over = m.over) (e2 : m'.metric = m.metric) (e3 : m'.label = m.label) (e4 : m'.inside = m.inside) : ValR K H' m' b c o me ms l z fo :=
  ⟨h.sel.mono t e1 e2, by rw [e3]; exact h.label, by rw [e4]; exact h.inside, h.found⟩
end
/-- what a mode's def promises: of the modes that Pm tells -/
def spAt (K : PySem.W.Frag) (Pm : Md → Prop) : Sp := fun vs H Q _ => ∃ (H0 : Hp) (p : Addr) (md md' : Md) (co co' : Core) (tk : Tk) (pl : Int), vs = [.ref p, .str tk.sign, tk.val, .int pl] ∧ Pm md ∧ MA K H0 H p md co ∧ Step md co tk md' co' ∧
  ∀ H', MA K H0 H' p md' co' → Q (.bl true) H'
def Fk (P : Program) (w : World) (K : PySem.W.Frag) (mg : Str → Option Value) (base : Heap) (k : Nat) (x : Str) (Pm : Md → Prop) : Prop := ∃ fd, FnOk P w K mg base CX0 k (He.ga K x) fd ["machine", "sign", "value", "place"] (spAt K Pm) ∧ Binds K fd ["machine", "sign", "value", "place"] [] ∧ PySem.W.keepIn K (.ref (He.ga K x)) = true
theorem sc_at_operand : FnScope (["machine", "sign", "value", "place"] : List Str) (["machine", "sign", "value", "place"] : List Str) (defScope s_at_operand) := ⟨rfl, rfl, rfl, by decide +kernel, rfl, by decide +kernel, by decide +kernel⟩
theorem k_at_operand (T : Txt w K mg) : Fk P w K mg base 5 "at_operand" (· = .operand) := by
  have G_turn := k_turn (P := P) (base := base) T
  have G_finish_operand := k_finish_operand (P := P) (base := base) T
  obtain ⟨fd, F⟩ := T.d_at_operand
  refine ⟨fd, fn_ok F sc_at_operand (fun vs H Q E h => ?_) (fun cdv A outer s H vs Q E hr h => ?_), F.bindsN (fun _ _ _ _ _ _ us hl => match us, hl with | [_, _, _, _], _ => rfl), F.kp⟩
  · obtain ⟨_, _, _, _, _, _, _, _, rfl, _⟩ := h
    rfl
  obtain ⟨H0, p, _, md', co, co', tk, pl, rfl, rfl, ⟨m, a, b, c, d, M, hmode, hR, C⟩, hs, q⟩ := h
  refine ⟨_, (pss_cons (ps_if (pt_cmpR op_eq (pv 1) pe_str (nomark _)) (pss_one (ps_ret (pe_mt G_finish_operand hr (by omega) (pv 0) (pa_cons (pe_tup (pa_cons pe_str (pa_cons (pv 2) pa_nil))) (pa_cons pe_str pa_nil))))) pss_nil)
    (pss_cons (ps_if (pt_cmpR op_eq (pv 1) pe_str (nomark _)) (pss_cons (ps_fld (pv 0) (pv 2) rfl)
    (pss_cons (ps_fld (pv 0) (pv 3) rfl)
    (pss_one (ps_ret (pe_mt G_turn hr (by omega) (pv 0) (pa_cons pe_str pa_nil)))))) pss_nil)
    (pss_cons (ps_if (pt_cmpR op_eq (pv 1) pe_str (nomark _)) (pss_cons (ps_expr (pe_bm PySem.F.plainAttrs_list PySem.F.slot_list_append PySem.F.type_list_append mt_append (pe_fld (pv 0) rfl) (pa_cons (pe_tup (pa_cons pe_str pa_nil)) pa_nil)))
    (pss_one (ps_ret (pe_mt G_turn hr (by omega) (pv 0) (pa_cons pe_str pa_nil))))) pss_nil)
    (pss_cons (ps_if (pt_cmpR op_eq (pv 1) pe_str (nomark _)) (pss_one (ps_ret (pe_mt G_turn hr (by omega) (pv 0) (pa_cons pe_str pa_nil)))) pss_nil)
    (pss_one (ps_ret pe_bl)))))), ?_⟩
  have M0 := MT.start M
  walk_at "w0"
  cases hs with
  | num n =>
    walk_at "tk"
    walk_at "m"
    refine ⟨le_line (by decide : 2 ≤ 100000), fun u hu => ?_⟩
    have t1 := tup_new (K := K) (o := .tup [.str "number", .int n]) hu
    have M1 := M0.grow (o := .tup [.str "number", .int n]) hu
    walk_at "m"
    refine c_finOp M1 fun H' t ht t2 M' => ?_
    have ts := t1.trans t2
    exact q H' ⟨_, _, _, _, _, M'.mo, rfl, trivial, ⟨C.st.mono ts, fun e he => by cases he; exact ⟨t, .ref u, false, rfl, ht, ⟨u, rfl, t2 _ _ (SqT.of upd_same)⟩, rfl⟩, C.sel, C.ops, C.spans.mono ts, C.len⟩⟩
  | word v =>
    walk_at "tk"
    walk_at "m"
    rename_i H2 M2
    refine c_turn M2 fun H' M' => ?_
    exact q H' ⟨_, _, _, _, _, M'.mo, rfl, rfl, C.mono M'.tu rfl rfl rfl⟩
  | «open» hz =>
    walk_at "tk"
    walk_at "m"
    refine i_tyL (SqL.of M.st) ?_
    walk_at "m"
    refine ⟨le_line (by decide : 1 ≤ 100000), fun u hu => ?_⟩
    have t1 := tup_new (K := K) (o := .tup [.str "open"]) hu
    have M1 := M0.grow (o := .tup [.str "open"]) hu
    have M2 := MT.start M1.mo
    walk_at "m"
    refine i_append M2.mo.st (lt_line (by have := C.st.len; omega)) ?_
    have M3 := M2.setSt (xs := a ++ [.ref u])
    walk_at "m"
    refine c_turn M3 fun H' M' => ?_
    have ts := t1.trans M'.tu
    exact q H' ⟨_, _, _, _, _, M'.mo, rfl, trivial, ⟨⟨a, .ref u, rfl, ⟨u, rfl, M'.tu _ _ (SqT.of upd_same)⟩, C.st.mono ts⟩, fun e he => (C.made e he).mono ts, C.sel, C.ops, C.spans.mono ts, C.len⟩⟩
  | minus =>
    walk_at "tk"
    walk_at "m"
    refine c_turn M0 fun H' M' => ?_
    exact q H' ⟨_, _, _, _, _, M'.mo, rfl, trivial, C.mono M'.tu rfl rfl rfl⟩
theorem sc_at_negative : FnScope (["machine", "sign", "value", "place"] : List Str) (["machine", "sign", "value", "place"] : List Str) (defScope s_at_negative) := ⟨rfl, rfl, rfl, by decide +kernel, rfl, by decide +kernel, by decide +kernel⟩
theorem k_at_negative (T : Txt w K mg) : Fk P w K mg base 5 "at_negative" (· = .negative) := by
  have G_finish_operand := k_finish_operand (P := P) (base := base) T
  obtain ⟨fd, F⟩ := T.d_at_negative
  refine ⟨fd, fn_ok F sc_at_negative (fun vs H Q E h => ?_) (fun cdv A outer s H vs Q E hr h => ?_), F.bindsN (fun _ _ _ _ _ _ us hl => match us, hl with | [_, _, _, _], _ => rfl), F.kp⟩
  · obtain ⟨_, _, _, _, _, _, _, _, rfl, _⟩ := h
    rfl
  obtain ⟨H0, p, _, md', co, co', tk, pl, rfl, rfl, ⟨m, a, b, c, d, M, hmode, hR, C⟩, hs, q⟩ := h
  refine ⟨_, (pss_cons (ps_if (pt_cmpR op_eq (pv 1) pe_str (nomark _)) (pss_one (ps_ret (pe_mt G_finish_operand hr (by omega) (pv 0) (pa_cons (pe_tup (pa_cons pe_str (pa_cons (pe_un un_neg (pv 2)) pa_nil))) (pa_cons pe_str pa_nil))))) pss_nil)
    (pss_one (ps_ret pe_bl))), ?_⟩
  have M0 := MT.start M
  walk_at "w0"
  cases hs with
  | neg n =>
    walk_at "tk"
    walk_at "m"
    refine ⟨le_line (by decide : 2 ≤ 100000), fun u hu => ?_⟩
    have t1 := tup_new (K := K) (o := .tup [.str "number", .int (-n)]) hu
    have M1 := M0.grow (o := .tup [.str "number", .int (-n)]) hu
    walk_at "m"
    refine c_finOp M1 fun H' t ht t2 M' => ?_
    have ts := t1.trans t2
    exact q H' ⟨_, _, _, _, _, M'.mo, rfl, trivial, ⟨C.st.mono ts, fun e he => by cases he; exact ⟨t, .ref u, false, rfl, ht, ⟨u, rfl, t2 _ _ (SqT.of upd_same)⟩, rfl⟩, C.sel, C.ops, C.spans.mono ts, C.len⟩⟩
/-! behind an expression -/
theorem c_endB {md : Md} {co co1 : Core} (M : MT K H0 Hb H p m a b c d) (hmode : m.mode = md.str) (hR : MdR K H m b c md) (C : CoR K H m a d co) (hc : (md = .done ∧ co1 = co) ∨ ∃ wd, md = .named wd ∧ co1 = co.named wd) {R : VK} {E : XK}
    (h : ∀ H1 m1 b1, TupLe K H H1 → MT K H0 Hb H1 p m1 a b1 c d → CoR K H1 m1 a d co1 → R .non H1) : spEndN K [.ref p] H R E := by
  rcases hc with ⟨rfl, rfl⟩ | ⟨wd, rfl, rfl⟩
  · exact c_endN0 M (by rw [hmode]; decide +kernel) (h H m b TupLe.refl M C)
  · refine c_endN M (by rw [hmode]; rfl) fun H' r v h1 t1 M' => h H' _ _ t1 M' ⟨C.st.mono t1, fun e he => ?_, ?_, C.ops, C.spans.mono t1, C.len⟩
    · cases he
      have hw : m.word = wd := hR
      rw [← hw]
      exact h1
    · show m.sel + 1 = ((co.sel + 1 : Nat) : Int)
      rw [C.sel]
      rfl
def spDone (K : PySem.W.Frag) : Sp := fun vs H Q _ => ∃ (H0 : Hp) (p : Addr) (md md' : Md) (co co1 co' : Core) (tk : Tk) (pl : Int), vs = [.ref p, .str tk.sign, tk.val, .int pl] ∧ MA K H0 H p md co ∧ ((md = .done ∧ co1 = co) ∨ ∃ wd, md = .named wd ∧ co1 = co.named wd) ∧ StepD co1 tk md' co' ∧
  ∀ H', MA K H0 H' p md' co' → Q (.bl true) H'
theorem strength_in (T : Txt w K mg) (o : Op) : ∃ u, PySem.W.nsIn K (He.ga K "STRENGTHS") o.str = some (some u) := by
  obtain ⟨es, n, u, h1, h2, h3, h4⟩ := strength_at T o
  exact ⟨u, h3⟩
theorem sc_at_done : FnScope (["machine", "sign", "value", "place"] : List Str) (["machine", "sign", "value", "place"] : List Str) (defScope s_at_done) := ⟨rfl, rfl, rfl, by decide +kernel, rfl, by decide +kernel, by decide +kernel⟩
theorem fn_at_done (T : Txt w K mg) : ∃ fd, FnOk P w K mg base CX0 5 (He.ga K "at_done") fd ["machine", "sign", "value", "place"] (spDone K) ∧ Binds K fd ["machine", "sign", "value", "place"] [] ∧ PySem.W.keepIn K (.ref (He.ga K "at_done")) = true := by
  have G_turn := k_turn (P := P) (base := base) T
  have G_end_named := k_end_named (P := P) (base := base) T
  have G_combine := k_combine (P := P) (base := base) T
  have G_close := k_close (P := P) (base := base) T
  obtain ⟨fd, F⟩ := T.d_at_done
  refine ⟨fd, fn_ok F sc_at_done (fun vs H Q E h => ?_) (fun cdv A outer s H vs Q E hr h => ?_), F.bindsN (fun _ _ _ _ _ _ us hl => match us, hl with | [_, _, _, _], _ => rfl), F.kp⟩
  · obtain ⟨_, _, _, _, _, _, _, _, _, rfl, _⟩ := h
    rfl
  obtain ⟨H0, p, md, md', co, co1, co', tk, pl, rfl, ⟨m, a, b, c, d, M, hmode, hR, C⟩, hc, hs, q⟩ := h
  refine ⟨_, (pss_cons (ps_expr (pe_mt0 G_end_named hr (by omega) (pv 0)))
    (pss_cons (ps_if (pt_cmpR op_eq (pv 1) pe_str (nomark _)) (pss_one (ps_ret (pe_mt0 G_close hr (by omega) (pv 0)))) pss_nil)
    (pss_cons (ps_if (pt_cmpR op_eq (pv 1) pe_str (nomark _)) (pss_cons (ps_if (pt_cmpR op_notIn_seq (pv 2) (pe_globR rfl T.g_JOIN_WORDS) rfl) (pss_one (ps_ret pe_bl)) pss_nil)
    (pss_one (ps_set (i := 1) sc_at_done.nd rfl (by first | exact Or.inl rfl | exact Or.inr rfl) (pv 2)))) pss_nil)
    (pss_cons (ps_if (pt_cmpR (op_notInD T.kd_STRENGTHS) (pv 1) (pe_globR rfl T.g_STRENGTHS) rfl) (pss_one (ps_ret pe_bl)) pss_nil)
    (pss_cons (ps_expr (pe_mt G_combine hr (by omega) (pv 0) (pa_cons (pe_ix ix_kdict (pe_globR rfl T.g_STRENGTHS) (pv 1) (fun _ _ => rfl)) pa_nil)))
    (pss_cons (ps_expr (pe_bm PySem.F.plainAttrs_list PySem.F.slot_list_append PySem.F.type_list_append mt_append (pe_fld (pv 0) rfl) (pa_cons (pe_tup (pa_cons pe_str (pa_cons (pv 1) (pa_cons (pe_fld (pv 0) rfl) (pa_cons (pv 3) pa_nil))))) pa_nil)))
    (pss_one (ps_ret (pe_mt G_turn hr (by omega) (pv 0) (pa_cons pe_str pa_nil)))))))))), ?_⟩
  have M0 := MT.start M
  walk_at "w0"
  walk_at "m"
  refine c_endB M0 hmode hR C hc fun H1 m1 b1 t1 M1 C1 => ?_
  have closes : ∀ {e e2 : Ex} {st2 : List Ent} {n2 : Nat} {co2 : Core}, co1.made = some e → CloseTo co1.stack e co1.ops st2 e2 n2 → co2 = ⟨st2, some e2, co1.sel, n2, co1.spans⟩ → (∀ H', MA K H0 H' p .done co2 → Q (.bl true) H') → spClose K [.ref p] H1 Q E0 := fun {e e2 st2 n2 co2} he hcl ec qq => by
    subst ec
    refine c_close M1 C1.st (C1.made e he) C1.ops hcl fun H' a' mdv s1 s2 t2 M' => ?_
    exact qq H' ⟨_, _, _, _, _, M'.mo, rfl, trivial, ⟨s1, fun x hx => by cases hx; exact s2, C1.sel, rfl, C1.spans.mono t2, C1.len⟩⟩
  cases hs with
  | close he hc =>
    walk_at "tk"
    walk_at "m"
    exact closes he (.inl hc) rfl q
  | agg he hc hk =>
    walk_at "tk"
    walk_at "m"
    exact closes he (.inr ⟨_, _, _, _, hc, hk, rfl, rfl⟩) rfl q
  | @op e e' st n o he hc hz =>
    by_cases hj : o.join = true
    · have etk : o.tk = .word o.str := by unfold Op.tk; rw [if_pos hj]
      rw [etk]
      walk_at "tk"
      walk_at "m"
      refine i_rIn (.inr (T.t_JOIN_WORDS _)) rfl rfl ?_
      walk_at "m"
      refine i_F (by revert hj; cases o <;> (intro hj; first | decide +kernel | exact absurd hj (by decide))) ?_
      walk_at "m"
      obtain ⟨u0, hu0⟩ := strength_in T o
      refine ⟨o.str, some u0, rfl, rfl, hu0, ?_⟩
      walk_at "m"
      refine i_rIxD (strength_at T o) ?_
      walk_at "m"
      refine c_comb (least := o.lev) M1 C1.st (C1.made e he) C1.ops hc fun H2 a2 md2 s2 m2 t2 M2 => ?_
      walk_at "m"
      refine i_tyL (SqL.of M2.mo.st) ?_
      walk_at "m"
      refine ⟨le_line (by decide : 4 ≤ 100000), fun u hu => ?_⟩
      have t3 := tup_new (K := K) (o := .tup [.str "infix", .str o.str, md2, .int pl]) hu
      have M3 := M2.grow (o := .tup [.str "infix", .str o.str, md2, .int pl]) hu
      have M4 := MT.start M3.mo
      walk_at "m"
      refine i_append M4.mo.st (lt_line (by have := s2.len; omega)) ?_
      have M5 := M4.setSt (xs := a2 ++ [.ref u])
      walk_at "m"
      refine c_turn M5 fun H' M' => ?_
      have ts := t3.trans M'.tu
      exact q H' ⟨_, _, _, _, _, M'.mo, rfl, trivial, ⟨⟨a2, .ref u, rfl, ⟨u, md2, pl, rfl, M'.tu _ _ (SqT.of upd_same), m2.mono ts⟩, s2.mono ts⟩, fun x hx => by cases hx; exact m2.mono ts, C1.sel, rfl, C1.spans.mono (t2.trans ts), C1.len⟩⟩
    · have etk : o.tk = .sym o.str := by unfold Op.tk; rw [if_neg hj]
      rw [etk]
      walk_at "tk"
      walk_at "m"
      refine i_F (by cases o <;> decide +kernel) ?_
      walk_at "m"
      refine i_F (by cases o <;> decide +kernel) ?_
      walk_at "m"
      obtain ⟨u0, hu0⟩ := strength_in T o
      refine ⟨o.str, some u0, rfl, rfl, hu0, ?_⟩
      walk_at "m"
      refine i_rIxD (strength_at T o) ?_
      walk_at "m"
      refine c_comb (least := o.lev) M1 C1.st (C1.made e he) C1.ops hc fun H2 a2 md2 s2 m2 t2 M2 => ?_
      walk_at "m"
      refine i_tyL (SqL.of M2.mo.st) ?_
      walk_at "m"
      refine ⟨le_line (by decide : 4 ≤ 100000), fun u hu => ?_⟩
      have t3 := tup_new (K := K) (o := .tup [.str "infix", .str o.str, md2, .int pl]) hu
      have M3 := M2.grow (o := .tup [.str "infix", .str o.str, md2, .int pl]) hu
      have M4 := MT.start M3.mo
      walk_at "m"
      refine i_append M4.mo.st (lt_line (by have := s2.len; omega)) ?_
      have M5 := M4.setSt (xs := a2 ++ [.ref u])
      walk_at "m"
      refine c_turn M5 fun H' M' => ?_
      have ts := t3.trans M'.tu
      exact q H' ⟨_, _, _, _, _, M'.mo, rfl, trivial, ⟨⟨a2, .ref u, rfl, ⟨u, md2, pl, rfl, M'.tu _ _ (SqT.of upd_same), m2.mono ts⟩, s2.mono ts⟩, fun x hx => by cases hx; exact m2.mono ts, C1.sel, rfl, C1.spans.mono (t2.trans ts), C1.len⟩⟩
end
end Wf


set_option Elab.async false
set_option linter.all false
set_option maxRecDepth 100000
set_option maxHeartbeats 4000000
namespace Wf
open PySem PySem.Spec PyProof.Rows L2
open C8 (pe_gc)
local macro_rules | `(tactic| walk_at "w1") => `(tactic| first
  | with_reducible refine i_seq ?_
  | with_reducible refine i_asg ?_
  | with_reducible refine i_gname ?_
  | ((with_reducible refine' i_var ?ivar ?imain); (case ivar => exact rfl))
  | with_reducible refine i_c ?_
  | with_reducible refine i_op ?_
  | with_reducible refine i_if ?_
  | with_reducible refine i_test ?_
  | with_reducible refine i_tB ?_
  | with_reducible refine i_bl ?_
  | with_reducible refine i_ret ?_
  | with_reducible refine i_retN ?_
  | with_reducible refine i_drop ?_
  | with_reducible refine i_next ?_
  | with_reducible refine i_cons ?_
  | with_reducible refine i_nil ?_
  | with_reducible refine i_cb ?_
  | with_reducible refine i_tup ?_
  | with_reducible refine i_lst ?_
  | with_reducible refine i_fld ?_
  | with_reducible refine i_sfld ?_
  | with_reducible refine i_call ?_
  | with_reducible refine i_meth ?_
  | with_reducible refine i_and ?_
  | with_reducible refine i_or ?_
  | with_reducible refine i_not ?_
  | with_reducible refine i_andV ?_
  | with_reducible refine i_orV ?_
  | with_reducible refine i_notV ?_
  | with_reducible refine i_ifV ?_
  | with_reducible refine i_un ?_
  | with_reducible refine i_neg ?_
  | with_reducible refine i_gcons ?_
  | with_reducible refine i_sl ?_
  | with_reducible refine i_part ?_
  | with_reducible refine i_nopart ?_
  | with_reducible refine i_int ?_
  | with_reducible refine i_inS ?_
  | with_reducible refine i_notInS ?_
  | with_reducible refine i_tyS ?_
  | with_reducible refine i_forL ?_
  | with_reducible refine i_forT ?_
  | with_reducible refine i_forR1 ?_
  | with_reducible refine i_bm ?_
  | with_reducible refine i_bm0 ?_
  | with_reducible refine i_gnil ?_
  | with_reducible refine i_rI0 ?_
  | with_reducible refine i_rIsN ?_
  | with_reducible refine i_rNotN ?_
  | with_reducible refine i_rInt ?_
  | ((with_reducible refine i_rEq ?isc ?imain); (case isc => exact rfl))
  | ((with_reducible refine i_rNe ?isc ?imain); (case isc => exact rfl))
  | with_reducible refine i_T rfl ?_
  | with_reducible refine i_F rfl ?_
  | ((refine' i_T ?icnd ?imain); (case icnd => decide +kernel))
  | ((refine' i_F ?icnd ?imain); (case icnd => decide +kernel))
  | fail)
local macro_rules | `(tactic| walk_at "w") => `(tactic| (repeat' walk_at "w1"))
local macro_rules | `(tactic| walk_at "w0") => `(tactic| (simp only [cxOf, L2.start, List.map_cons, List.map_nil, List.length_cons, List.length_nil, Nat.reduceAdd, Nat.reduceSub, Nat.zero_add, List.replicate_zero, List.replicate_succ, List.cons_append, List.nil_append]))
local macro_rules | `(tactic| walk_at "tk") => `(tactic| (simp only [Tk.sign, Tk.val]))
local macro_rules | `(tactic| walk_at "c") => `(tactic| (dsimp only [List.set_cons_zero, List.set_cons_succ, List.cons_append, List.nil_append]))

local macro_rules | `(tactic| walk_at "m1") => `(tactic| first
  | walk_at "w1"
  | ((with_reducible refine' g_mode ?T ?M ?h); (case T => assumption); (case M => assumption))
  | ((with_reducible refine' g_first ?T ?M ?h); (case T => assumption); (case M => assumption))
  | ((with_reducible refine' g_stack ?T ?M ?h); (case T => assumption); (case M => assumption))
  | ((with_reducible refine' g_made ?T ?M ?h); (case T => assumption); (case M => assumption))
  | ((with_reducible refine' g_word ?T ?M ?h); (case T => assumption); (case M => assumption))
  | ((with_reducible refine' g_place ?T ?M ?h); (case T => assumption); (case M => assumption))
  | ((with_reducible refine' g_over ?T ?M ?h); (case T => assumption); (case M => assumption))
  | ((with_reducible refine' g_metric ?T ?M ?h); (case T => assumption); (case M => assumption))
  | ((with_reducible refine' g_matchers ?T ?M ?h); (case T => assumption); (case M => assumption))
  | ((with_reducible refine' g_label ?T ?M ?h); (case T => assumption); (case M => assumption))
  | ((with_reducible refine' g_inside ?T ?M ?h); (case T => assumption); (case M => assumption))
  | ((with_reducible refine' g_found ?T ?M ?h); (case T => assumption); (case M => assumption))
  | ((with_reducible refine' g_span ?T ?M ?h); (case T => assumption); (case M => assumption))
  | ((with_reducible refine' g_spans ?T ?M ?h); (case T => assumption); (case M => assumption))
  | ((with_reducible refine' g_selectors ?T ?M ?h); (case T => assumption); (case M => assumption))
  | ((with_reducible refine' g_operators ?T ?M ?h); (case T => assumption); (case M => assumption))
  | ((with_reducible refine' g_many ?T ?M ?h); (case T => assumption); (case M => assumption))
  | ((with_reducible refine' g_unkind ?T ?M ?h); (case T => assumption); (case M => assumption))
  | ((with_reducible refine' s_mode ?T ?M ?h); (case T => assumption); (case M => assumption); intro _ _)
  | ((with_reducible refine' s_first ?T ?M ?h); (case T => assumption); (case M => assumption); intro _ _)
  | ((with_reducible refine' s_made ?T ?M ?h); (case T => assumption); (case M => assumption); intro _ _)
  | ((with_reducible refine' s_word ?T ?M ?h); (case T => assumption); (case M => assumption); intro _ _)
  | ((with_reducible refine' s_place ?T ?M ?h); (case T => assumption); (case M => assumption); intro _ _)
  | ((with_reducible refine' s_over ?T ?M ?h); (case T => assumption); (case M => assumption); intro _ _)
  | ((with_reducible refine' s_metric ?T ?M ?h); (case T => assumption); (case M => assumption); intro _ _)
  | ((with_reducible refine' s_label ?T ?M ?h); (case T => assumption); (case M => assumption); intro _ _)
  | ((with_reducible refine' s_inside ?T ?M ?h); (case T => assumption); (case M => assumption); intro _ _)
  | ((with_reducible refine' s_span ?T ?M ?h); (case T => assumption); (case M => assumption); intro _ _)
  | ((with_reducible refine' s_selectors ?T ?M ?h); (case T => assumption); (case M => assumption); intro _ _)
  | ((with_reducible refine' s_operators ?T ?M ?h); (case T => assumption); (case M => assumption); intro _ _)
  | ((with_reducible refine' g_meth ?M ?l ?h); (case M => assumption); (case l => first | exact nol_turn _ | exact nol_finish_operand _ | exact nol_begin_selector _ | exact nol_finish_selector _ | exact nol_finish_over _ | exact nol_add_matcher _ | exact nol_judge _ | exact nol_combine _ | exact nol_close _ | exact nol_open_aggregate _ | exact nol_end_named _ | exact nol_has_open _ | exact nol_can_end _))
  | fail)
local macro_rules | `(tactic| walk_at "m") => `(tactic| (repeat' walk_at "m1"))

section
variable {P : Program} {w : World} {K : PySem.W.Frag} {mg : Str → Option Value} {base : Heap} {H0 Hb H : Hp} {p : Addr} {m : MF} {a b c d : List V}
/-! ### range_open, span .. -/
def spRange (K : PySem.W.Frag) : Sp := fun vs H Q _ => ∃ (H0 : Hp) (p : Addr) (m : MF) (a b c d : List V) (pl : Int), vs = [.ref p, .str "[", .str "[", .int pl] ∧ MO K H0 H p m a b c d ∧ ∀ H', MT K H0 H H' p { m with mode := "span" } a b c d → Q (.bl true) H'
theorem sc_at_range_open : FnScope (["machine", "sign", "value", "place"] : List Str) (["machine", "sign", "value", "place"] : List Str) (defScope s_at_range_open) := ⟨rfl, rfl, rfl, by decide +kernel, rfl, by decide +kernel, by decide +kernel⟩
theorem fn_at_range_open (T : Txt w K mg) : ∃ fd, FnOk P w K mg base CX0 2 (He.ga K "at_range_open") fd ["machine", "sign", "value", "place"] (spRange K) ∧ Binds K fd ["machine", "sign", "value", "place"] [] ∧ PySem.W.keepIn K (.ref (He.ga K "at_range_open")) = true := by
  have G_turn := k_turn (P := P) (base := base) T
  obtain ⟨fd, F⟩ := T.d_at_range_open
  refine ⟨fd, fn_ok F sc_at_range_open (fun vs H Q E h => ?_) (fun cdv A outer s H vs Q E hr h => ?_), F.bindsN (fun _ _ _ _ _ _ us hl => match us, hl with | [_, _, _, _], _ => rfl), F.kp⟩
  · obtain ⟨_, _, _, _, _, _, _, _, rfl, _⟩ := h
    rfl
  obtain ⟨H0, p, m, a, b, c, d, pl, rfl, M, q⟩ := h
  refine ⟨_, (pss_cons (ps_if (pt_cmpR op_eq (pv 1) pe_str (nomark _)) (pss_one (ps_ret (pe_mt G_turn hr (by omega) (pv 0) (pa_cons pe_str pa_nil)))) pss_nil)
    (pss_one (ps_ret pe_bl))), ?_⟩
  have M0 := MT.start M
  walk_at "w0"
  walk_at "m"
  refine c_turn M0 fun H' M' => ?_
  exact q H' M'
theorem k_range (T : Txt w K mg) : Cal P w K mg base 2 "at_range_open" (spRange K) := by
  obtain ⟨fd, F, b, k⟩ := fn_at_range_open (P := P) (base := base) T
  exact ⟨_, fd, _, F, T.g_at_range_open, k, b⟩
theorem k_at_range_open (T : Txt w K mg) : Fk P w K mg base 6 "at_range_open" (fun md => ∃ o me ms, md = .rangeOpen o me ms) := by
  obtain ⟨fd, F, b, k⟩ := fn_at_range_open (P := P) (base := base) T
  refine ⟨fd, (F.mono (by omega)).imp ?_, b, k⟩
  rintro vs H Q E ⟨H0, p, _, md', co, co', tk, pl, rfl, ⟨o, me, ms, rfl⟩, ⟨m, a, b, c, d, M, hmode, hR, C⟩, hs, q⟩
  cases hs with
  | rangeOpen => exact ⟨H0, p, m, a, b, c, d, pl, rfl, M, fun H' M' => q H' ⟨_, _, _, _, _, M'.mo, rfl, SelR.mono M'.tu hR rfl rfl, C.mono M'.tu rfl rfl rfl⟩⟩
theorem sc_at_span : FnScope (["machine", "sign", "value", "place"] : List Str) (["machine", "sign", "value", "place"] : List Str) (defScope s_at_span) := ⟨rfl, rfl, rfl, by decide +kernel, rfl, by decide +kernel, by decide +kernel⟩
theorem k_at_span (T : Txt w K mg) : Fk P w K mg base 6 "at_span" (fun md => ∃ o me ms, md = .span o me ms) := by
  have G_turn := k_turn (P := P) (base := base) T
  obtain ⟨fd, F⟩ := T.d_at_span
  refine ⟨fd, fn_ok F sc_at_span (fun vs H Q E h => ?_) (fun cdv A outer s H vs Q E hr h => ?_), F.bindsN (fun _ _ _ _ _ _ us hl => match us, hl with | [_, _, _, _], _ => rfl), F.kp⟩
  · obtain ⟨_, _, _, _, _, _, _, _, rfl, _⟩ := h
    rfl
  obtain ⟨H0, p, _, md', co, co', tk, pl, rfl, ⟨o, me, ms, rfl⟩, ⟨m, a, b, c, d, M, hmode, hR, C⟩, hs, q⟩ := h
  refine ⟨_, (pss_cons (ps_if (pt_cmpR op_eq (pv 1) pe_str (nomark _)) (pss_cons (ps_fld (pv 0) (pv 2) rfl)
    (pss_cons (ps_expr (pe_bm PySem.F.plainAttrs_list PySem.F.slot_list_append PySem.F.type_list_append mt_append (pe_fld (pv 0) rfl) (pa_cons (pe_tup (pa_cons (pv 2) (pa_cons (pv 3) pa_nil))) pa_nil)))
    (pss_one (ps_ret (pe_mt G_turn hr (by omega) (pv 0) (pa_cons pe_str pa_nil)))))) pss_nil)
    (pss_one (ps_ret pe_bl))), ?_⟩
  have M0 := MT.start M
  walk_at "w0"
  cases hs with
  | span n h1 h2 hz =>
    walk_at "tk"
    walk_at "m"
    rename_i H1 M1
    refine i_tyL (SqL.of M1.mo.sp) ?_
    walk_at "m"
    refine ⟨le_line (by decide : 2 ≤ 100000), fun u hu => ?_⟩
    have t1 := tup_new (K := K) (o := .tup [.int n, .int pl]) hu
    have M2 := M1.grow (o := .tup [.int n, .int pl]) hu
    have M3 := MT.start M2.mo
    walk_at "m"
    refine i_append M3.mo.sp (lt_line (by have := C.len; omega)) ?_
    have M4 := M3.setSp (xs := d ++ [.ref u])
    walk_at "m"
    refine c_turn M4 fun H' M' => ?_
    have ts := M1.tu.trans (t1.trans M'.tu)
    refine q H' ⟨_, _, _, _, _, M'.mo, rfl, ⟨SelR.mono ts hR rfl rfl, rfl⟩, ⟨C.st.mono ts, fun e he => (C.made e he).mono ts, C.sel, C.ops, ?_, ?_⟩⟩
    · intro v hv
      rcases List.mem_append.mp hv with hv | hv
      · exact C.spans.mono ts v hv
      · have ev : v = .ref u := by simpa using hv
        exact ⟨u, n, pl, ev, M'.tu _ _ (SqT.of upd_same), h1, h2⟩
    · rw [List.length_append, C.len]
      rfl
theorem sc_at_span_end : FnScope (["machine", "sign", "value", "place"] : List Str) (["machine", "sign", "value", "place"] : List Str) (defScope s_at_span_end) := ⟨rfl, rfl, rfl, by decide +kernel, rfl, by decide +kernel, by decide +kernel⟩
theorem k_at_span_end (T : Txt w K mg) : Fk P w K mg base 6 "at_span_end" (fun md => ∃ o me ms n, md = .spanEnd o me ms n) := by
  have G_turn := k_turn (P := P) (base := base) T
  obtain ⟨fd, F⟩ := T.d_at_span_end
  refine ⟨fd, fn_ok F sc_at_span_end (fun vs H Q E h => ?_) (fun cdv A outer s H vs Q E hr h => ?_), F.bindsN (fun _ _ _ _ _ _ us hl => match us, hl with | [_, _, _, _], _ => rfl), F.kp⟩
  · obtain ⟨_, _, _, _, _, _, _, _, rfl, _⟩ := h
    rfl
  obtain ⟨H0, p, _, md', co, co', tk, pl, rfl, ⟨o, me, ms, n, rfl⟩, ⟨m, a, b, c, d, M, hmode, hR, C⟩, hs, q⟩ := h
  refine ⟨_, (pss_cons (ps_if (pt_cmpR op_eq (pv 1) pe_str (nomark _)) (pss_one (ps_ret (pe_mt G_turn hr (by omega) (pv 0) (pa_cons pe_str pa_nil)))) pss_nil)
    (pss_one (ps_ret pe_bl))), ?_⟩
  have M0 := MT.start M
  walk_at "w0"
  cases hs with
  | spanEnd =>
    walk_at "tk"
    walk_at "m"
    refine c_turn M0 fun H' M' => ?_
    exact q H' ⟨_, _, _, _, _, M'.mo, rfl, ⟨SelR.mono M'.tu hR.1 rfl rfl, hR.2⟩, C.mono M'.tu rfl rfl rfl⟩
theorem sc_at_over_close : FnScope (["machine", "sign", "value", "place"] : List Str) (["machine", "sign", "value", "place"] : List Str) (defScope s_at_over_close) := ⟨rfl, rfl, rfl, by decide +kernel, rfl, by decide +kernel, by decide +kernel⟩
theorem k_at_over_close (T : Txt w K mg) : Fk P w K mg base 6 "at_over_close" (fun md => ∃ o me ms n, md = .overClose o me ms n) := by
  have G_finish_over := k_finish_over (P := P) (base := base) T
  obtain ⟨fd, F⟩ := T.d_at_over_close
  refine ⟨fd, fn_ok F sc_at_over_close (fun vs H Q E h => ?_) (fun cdv A outer s H vs Q E hr h => ?_), F.bindsN (fun _ _ _ _ _ _ us hl => match us, hl with | [_, _, _, _], _ => rfl), F.kp⟩
  · obtain ⟨_, _, _, _, _, _, _, _, rfl, _⟩ := h
    rfl
  obtain ⟨H0, p, _, md', co, co', tk, pl, rfl, ⟨o, me, ms, n, rfl⟩, ⟨m, a, b, c, d, M, hmode, hR, C⟩, hs, q⟩ := h
  refine ⟨_, (pss_cons (ps_if (pt_cmpR op_eq (pv 1) pe_str (nomark _)) (pss_one (ps_ret (pe_mt0 G_finish_over hr (by omega) (pv 0)))) pss_nil)
    (pss_one (ps_ret pe_bl))), ?_⟩
  have M0 := MT.start M
  walk_at "w0"
  cases hs with
  | overClose =>
    walk_at "tk"
    walk_at "m"
    refine c_finOver M0 fun H' t u s h1 h2 h3 t1 M' => ?_
    obtain ⟨⟨e1, e2, e3, e4⟩, e5⟩ := hR
    have e1' : m.over = o.str := e1
    rw [e1', e2, e5] at h2
    refine q H' ⟨_, _, _, _, _, M'.mo, rfl, trivial, ⟨C.st.mono t1, fun e he => by cases he; exact ⟨t, .ref u, true, rfl, h3, ⟨u, s, b, rfl, h2, h1, e4.mono t1⟩, rfl⟩, ?_, C.ops, C.spans.mono t1, C.len⟩⟩
    show m.sel + 1 = ((co.sel + 1 : Nat) : Int)
    rw [C.sel]
    rfl
/-! ### by .. -/
theorem sc_at_by_open : FnScope (["machine", "sign", "value", "place"] : List Str) (["machine", "sign", "value", "place"] : List Str) (defScope s_at_by_open) := ⟨rfl, rfl, rfl, by decide +kernel, rfl, by decide +kernel, by decide +kernel⟩
theorem k_at_by_open (T : Txt w K mg) : Fk P w K mg base 6 "at_by_open" (fun md => ∃ o, md = .byOpen o) := by
  have G_turn := k_turn (P := P) (base := base) T
  obtain ⟨fd, F⟩ := T.d_at_by_open
  refine ⟨fd, fn_ok F sc_at_by_open (fun vs H Q E h => ?_) (fun cdv A outer s H vs Q E hr h => ?_), F.bindsN (fun _ _ _ _ _ _ us hl => match us, hl with | [_, _, _, _], _ => rfl), F.kp⟩
  · obtain ⟨_, _, _, _, _, _, _, _, rfl, _⟩ := h
    rfl
  obtain ⟨H0, p, _, md', co, co', tk, pl, rfl, ⟨o, rfl⟩, ⟨m, a, b, c, d, M, hmode, hR, C⟩, hs, q⟩ := h
  refine ⟨_, (pss_cons (ps_if (pt_cmpR op_eq (pv 1) pe_str (nomark _)) (pss_cons (ps_fld (pv 0) (pe_lst pa_nil) rfl)
    (pss_one (ps_ret (pe_mt G_turn hr (by omega) (pv 0) (pa_cons pe_str pa_nil))))) pss_nil)
    (pss_one (ps_ret pe_bl))), ?_⟩
  have M0 := MT.start M
  walk_at "w0"
  cases hs with
  | byOpen =>
    walk_at "tk"
    walk_at "m"
    refine ⟨Nat.zero_le _, fun t ht => ?_⟩
    walk_at "m"
    refine s_found T M0 ht fun H1 M1 => ?_
    walk_at "m"
    refine c_turn M1 fun H' M' => ?_
    exact q H' ⟨_, _, _, _, _, M'.mo, rfl, ⟨hR, rfl⟩, C.mono M'.tu rfl rfl rfl⟩
theorem sc_at_by_name : FnScope (["machine", "sign", "value", "place"] : List Str) (["machine", "sign", "value", "place"] : List Str) (defScope s_at_by_name) := ⟨rfl, rfl, rfl, by decide +kernel, rfl, by decide +kernel, by decide +kernel⟩
theorem k_at_by_name (T : Txt w K mg) : Fk P w K mg base 6 "at_by_name" (fun md => ∃ o fo, md = .byName o fo) := by
  have G_turn := k_turn (P := P) (base := base) T
  obtain ⟨fd, F⟩ := T.d_at_by_name
  refine ⟨fd, fn_ok F sc_at_by_name (fun vs H Q E h => ?_) (fun cdv A outer s H vs Q E hr h => ?_), F.bindsN (fun _ _ _ _ _ _ us hl => match us, hl with | [_, _, _, _], _ => rfl), F.kp⟩
  · obtain ⟨_, _, _, _, _, _, _, _, rfl, _⟩ := h
    rfl
  obtain ⟨H0, p, _, md', co, co', tk, pl, rfl, ⟨o, fo, rfl⟩, ⟨m, a, b, c, d, M, hmode, hR, C⟩, hs, q⟩ := h
  refine ⟨_, (pss_cons (ps_if (pt_cmpR op_eq (pv 1) pe_str (nomark _)) (pss_cons (ps_expr (pe_bm PySem.F.plainAttrs_list PySem.F.slot_list_append PySem.F.type_list_append mt_append (pe_fld (pv 0) rfl) (pa_cons (pv 2) pa_nil)))
    (pss_one (ps_ret (pe_mt G_turn hr (by omega) (pv 0) (pa_cons pe_str pa_nil))))) pss_nil)
    (pss_cons (ps_if (PW.pt (pw_and (pt_cmpR op_eq (pv 1) pe_str (nomark _)) (pw_and1 (pt_not (pt_truth (pe_fld (pv 0) rfl) (by intro _; rfl)))))) (pss_one (ps_ret (pe_mt G_turn hr (by omega) (pv 0) (pa_cons pe_str pa_nil)))) pss_nil)
    (pss_one (ps_ret pe_bl)))), ?_⟩
  have M0 := MT.start M
  walk_at "w0"
  obtain ⟨hR1, hR2⟩ := hR
  cases hs with
  | byName s hz =>
    walk_at "tk"
    walk_at "m"
    refine i_tyL (SqL.of M.fo) ?_
    walk_at "m"
    refine i_append M.fo (lt_line (by rw [hR2, List.length_map]; omega)) ?_
    have M1 := M0.setFo (xs := c ++ [.str s])
    walk_at "m"
    refine c_turn M1 fun H' M' => ?_
    exact q H' ⟨_, _, _, _, _, M'.mo, rfl, ⟨hR1, by rw [hR2, List.map_append]; rfl⟩, C.mono M'.tu rfl rfl rfl⟩
theorem sc_at_by_end : FnScope (["machine", "sign", "value", "place"] : List Str) (["machine", "sign", "value", "place"] : List Str) (defScope s_at_by_end) := ⟨rfl, rfl, rfl, by decide +kernel, rfl, by decide +kernel, by decide +kernel⟩
theorem k_at_by_end (T : Txt w K mg) : Fk P w K mg base 6 "at_by_end" (fun md => ∃ o fo, md = .byEnd o fo) := by
  have G_turn := k_turn (P := P) (base := base) T
  obtain ⟨fd, F⟩ := T.d_at_by_end
  refine ⟨fd, fn_ok F sc_at_by_end (fun vs H Q E h => ?_) (fun cdv A outer s H vs Q E hr h => ?_), F.bindsN (fun _ _ _ _ _ _ us hl => match us, hl with | [_, _, _, _], _ => rfl), F.kp⟩
  · obtain ⟨_, _, _, _, _, _, _, _, rfl, _⟩ := h
    rfl
  obtain ⟨H0, p, _, md', co, co', tk, pl, rfl, ⟨o, fo, rfl⟩, ⟨m, a, b, c, d, M, hmode, hR, C⟩, hs, q⟩ := h
  refine ⟨_, (pss_cons (ps_if (pt_cmpR op_eq (pv 1) pe_str (nomark _)) (pss_one (ps_ret (pe_mt G_turn hr (by omega) (pv 0) (pa_cons pe_str pa_nil)))) pss_nil)
    (pss_cons (ps_if (pt_cmpR op_eq (pv 1) pe_str (nomark _)) (pss_one (ps_ret (pe_mt G_turn hr (by omega) (pv 0) (pa_cons pe_str pa_nil)))) pss_nil)
    (pss_one (ps_ret pe_bl)))), ?_⟩
  have M0 := MT.start M
  walk_at "w0"
  cases hs with
  | byMore =>
    walk_at "tk"
    walk_at "m"
    refine c_turn M0 fun H' M' => ?_
    exact q H' ⟨_, _, _, _, _, M'.mo, rfl, hR, C.mono M'.tu rfl rfl rfl⟩
  | byEnd =>
    walk_at "tk"
    walk_at "m"
    refine c_turn M0 fun H' M' => ?_
    exact q H' ⟨_, _, _, _, _, M'.mo, rfl, hR, C.mono M'.tu rfl rfl rfl⟩
theorem sc_at_aggregate_open : FnScope (["machine", "sign", "value", "place"] : List Str) (["machine", "sign", "value", "place"] : List Str) (defScope s_at_aggregate_open) := ⟨rfl, rfl, rfl, by decide +kernel, rfl, by decide +kernel, by decide +kernel⟩
theorem k_at_aggregate_open (T : Txt w K mg) : Fk P w K mg base 6 "at_aggregate_open" (fun md => ∃ o fo, md = .aggOpen o fo) := by
  have G_open_aggregate := k_open_aggregate (P := P) (base := base) T
  obtain ⟨fd, F⟩ := T.d_at_aggregate_open
  refine ⟨fd, fn_ok F sc_at_aggregate_open (fun vs H Q E h => ?_) (fun cdv A outer s H vs Q E hr h => ?_), F.bindsN (fun _ _ _ _ _ _ us hl => match us, hl with | [_, _, _, _], _ => rfl), F.kp⟩
  · obtain ⟨_, _, _, _, _, _, _, _, rfl, _⟩ := h
    rfl
  obtain ⟨H0, p, _, md', co, co', tk, pl, rfl, ⟨o, fo, rfl⟩, ⟨m, a, b, c, d, M, hmode, hR, C⟩, hs, q⟩ := h
  refine ⟨_, (pss_cons (ps_if (pt_cmpR op_eq (pv 1) pe_str (nomark _)) (pss_one (ps_ret (pe_mt G_open_aggregate hr (by omega) (pv 0) (pa_cons (pe_fld (pv 0) rfl) pa_nil)))) pss_nil)
    (pss_one (ps_ret pe_bl))), ?_⟩
  have M0 := MT.start M
  walk_at "w0"
  obtain ⟨hR1, hR2⟩ := hR
  cases hs with
  | aggOpen hf hz =>
    walk_at "tk"
    walk_at "m"
    subst hR2
    refine c_openA M0 (SqL.of M.fo) (by rw [List.length_map]; exact hf) (by have := C.st.len; omega) fun H' t u h1 h2 t1 M' => ?_
    rw [hR1] at h2
    exact q H' ⟨_, _, _, _, _, M'.mo, rfl, trivial, ⟨⟨a, .ref t, rfl, ⟨t, u, _, rfl, h2, h1⟩, C.st.mono t1⟩, fun e he => (C.made e he).mono t1, C.sel, C.ops, C.spans.mono t1, C.len⟩⟩
end
end Wf


set_option Elab.async false
set_option linter.all false
set_option maxRecDepth 100000
set_option maxHeartbeats 4000000
namespace Wf
open PySem PySem.Spec PyProof.Rows L2
open C8 (pe_gc)
local macro_rules | `(tactic| walk_at "w1") => `(tactic| first
  | with_reducible refine i_seq ?_
  | with_reducible refine i_asg ?_
  | with_reducible refine i_gname ?_
  | ((with_reducible refine' i_var ?ivar ?imain); (case ivar => exact rfl))
  | with_reducible refine i_c ?_
  | with_reducible refine i_op ?_
  | with_reducible refine i_if ?_
  | with_reducible refine i_test ?_
  | with_reducible refine i_tB ?_
  | with_reducible refine i_bl ?_
  | with_reducible refine i_ret ?_
  | with_reducible refine i_retN ?_
  | with_reducible refine i_drop ?_
  | with_reducible refine i_next ?_
  | with_reducible refine i_cons ?_
  | with_reducible refine i_nil ?_
  | with_reducible refine i_cb ?_
  | with_reducible refine i_tup ?_
  | with_reducible refine i_lst ?_
  | with_reducible refine i_fld ?_
  | with_reducible refine i_sfld ?_
  | with_reducible refine i_call ?_
  | with_reducible refine i_meth ?_
  | with_reducible refine i_and ?_
  | with_reducible refine i_or ?_
  | with_reducible refine i_not ?_
  | with_reducible refine i_andV ?_
  | with_reducible refine i_orV ?_
  | with_reducible refine i_notV ?_
  | with_reducible refine i_ifV ?_
  | with_reducible refine i_un ?_
  | with_reducible refine i_neg ?_
  | with_reducible refine i_gcons ?_
  | with_reducible refine i_sl ?_
  | with_reducible refine i_part ?_
  | with_reducible refine i_nopart ?_
  | with_reducible refine i_int ?_
  | with_reducible refine i_inS ?_
  | with_reducible refine i_notInS ?_
  | with_reducible refine i_tyS ?_
  | with_reducible refine i_forL ?_
  | with_reducible refine i_forT ?_
  | with_reducible refine i_forR1 ?_
  | with_reducible refine i_bm ?_
  | with_reducible refine i_bm0 ?_
  | with_reducible refine i_gnil ?_
  | with_reducible refine i_rI0 ?_
  | with_reducible refine i_rIsN ?_
  | with_reducible refine i_rNotN ?_
  | with_reducible refine i_rInt ?_
  | ((with_reducible refine i_rEq ?isc ?imain); (case isc => exact rfl))
  | ((with_reducible refine i_rNe ?isc ?imain); (case isc => exact rfl))
  | with_reducible refine i_T rfl ?_
  | with_reducible refine i_F rfl ?_
  | ((refine' i_T ?icnd ?imain); (case icnd => decide +kernel))
  | ((refine' i_F ?icnd ?imain); (case icnd => decide +kernel))
  | fail)
local macro_rules | `(tactic| walk_at "w") => `(tactic| (repeat' walk_at "w1"))
local macro_rules | `(tactic| walk_at "w0") => `(tactic| (simp only [cxOf, L2.start, List.map_cons, List.map_nil, List.length_cons, List.length_nil, Nat.reduceAdd, Nat.reduceSub, Nat.zero_add, List.replicate_zero, List.replicate_succ, List.cons_append, List.nil_append]))
local macro_rules | `(tactic| walk_at "tk") => `(tactic| (simp only [Tk.sign, Tk.val]))
local macro_rules | `(tactic| walk_at "c") => `(tactic| (dsimp only [List.set_cons_zero, List.set_cons_succ, List.cons_append, List.nil_append]))

local macro_rules | `(tactic| walk_at "m1") => `(tactic| first
  | walk_at "w1"
  | ((with_reducible refine' g_mode ?T ?M ?h); (case T => assumption); (case M => assumption))
  | ((with_reducible refine' g_first ?T ?M ?h); (case T => assumption); (case M => assumption))
  | ((with_reducible refine' g_stack ?T ?M ?h); (case T => assumption); (case M => assumption))
  | ((with_reducible refine' g_made ?T ?M ?h); (case T => assumption); (case M => assumption))
  | ((with_reducible refine' g_word ?T ?M ?h); (case T => assumption); (case M => assumption))
  | ((with_reducible refine' g_place ?T ?M ?h); (case T => assumption); (case M => assumption))
  | ((with_reducible refine' g_over ?T ?M ?h); (case T => assumption); (case M => assumption))
  | ((with_reducible refine' g_metric ?T ?M ?h); (case T => assumption); (case M => assumption))
  | ((with_reducible refine' g_matchers ?T ?M ?h); (case T => assumption); (case M => assumption))
  | ((with_reducible refine' g_label ?T ?M ?h); (case T => assumption); (case M => assumption))
  | ((with_reducible refine' g_inside ?T ?M ?h); (case T => assumption); (case M => assumption))
  | ((with_reducible refine' g_found ?T ?M ?h); (case T => assumption); (case M => assumption))
  | ((with_reducible refine' g_span ?T ?M ?h); (case T => assumption); (case M => assumption))
  | ((with_reducible refine' g_spans ?T ?M ?h); (case T => assumption); (case M => assumption))
  | ((with_reducible refine' g_selectors ?T ?M ?h); (case T => assumption); (case M => assumption))
  | ((with_reducible refine' g_operators ?T ?M ?h); (case T => assumption); (case M => assumption))
  | ((with_reducible refine' g_many ?T ?M ?h); (case T => assumption); (case M => assumption))
  | ((with_reducible refine' g_unkind ?T ?M ?h); (case T => assumption); (case M => assumption))
  | ((with_reducible refine' s_mode ?T ?M ?h); (case T => assumption); (case M => assumption); intro _ _)
  | ((with_reducible refine' s_first ?T ?M ?h); (case T => assumption); (case M => assumption); intro _ _)
  | ((with_reducible refine' s_made ?T ?M ?h); (case T => assumption); (case M => assumption); intro _ _)
  | ((with_reducible refine' s_word ?T ?M ?h); (case T => assumption); (case M => assumption); intro _ _)
  | ((with_reducible refine' s_place ?T ?M ?h); (case T => assumption); (case M => assumption); intro _ _)
  | ((with_reducible refine' s_over ?T ?M ?h); (case T => assumption); (case M => assumption); intro _ _)
  | ((with_reducible refine' s_metric ?T ?M ?h); (case T => assumption); (case M => assumption); intro _ _)
  | ((with_reducible refine' s_label ?T ?M ?h); (case T => assumption); (case M => assumption); intro _ _)
  | ((with_reducible refine' s_inside ?T ?M ?h); (case T => assumption); (case M => assumption); intro _ _)
  | ((with_reducible refine' s_span ?T ?M ?h); (case T => assumption); (case M => assumption); intro _ _)
  | ((with_reducible refine' s_selectors ?T ?M ?h); (case T => assumption); (case M => assumption); intro _ _)
  | ((with_reducible refine' s_operators ?T ?M ?h); (case T => assumption); (case M => assumption); intro _ _)
  | ((with_reducible refine' g_meth ?M ?l ?h); (case M => assumption); (case l => first | exact nol_turn _ | exact nol_finish_operand _ | exact nol_begin_selector _ | exact nol_finish_selector _ | exact nol_finish_over _ | exact nol_add_matcher _ | exact nol_judge _ | exact nol_combine _ | exact nol_close _ | exact nol_open_aggregate _ | exact nol_end_named _ | exact nol_has_open _ | exact nol_can_end _))
  | fail)
local macro_rules | `(tactic| walk_at "m") => `(tactic| (repeat' walk_at "m1"))

section
variable {P : Program} {w : World} {K : PySem.W.Frag} {mg : Str → Option Value} {base : Heap} {H0 Hb H : Hp} {p : Addr} {m : MF} {a b c d : List V}
theorem MatsR.snoc {m : Mat} {t u : Addr} (h1 : SqT K H t [.str m.name, .ref u, .bl m.inside]) (h2 : SqT K H u (m.values.map V.str)) : ∀ {ms : List Mat} {vs : List V}, MatsR K H ms vs → MatsR K H (ms ++ [m]) (vs ++ [.ref t])
  | [], vs, h => by
    rw [show vs = [] from h]
    exact ⟨t, u, [], rfl, h1, h2, rfl⟩
  | _ :: _, _, ⟨x, y, r, e, h3, h4, h5⟩ => by
    rw [e]
    exact ⟨x, y, r ++ [.ref t], rfl, h3, h4, MatsR.snoc h1 h2 h5⟩
theorem sc_at_over_metric : FnScope (["machine", "sign", "value", "place"] : List Str) (["machine", "sign", "value", "place"] : List Str) (defScope s_at_over_metric) := ⟨rfl, rfl, rfl, by decide +kernel, rfl, by decide +kernel, by decide +kernel⟩
theorem k_at_over_metric (T : Txt w K mg) : Fk P w K mg base 6 "at_over_metric" (fun md => ∃ o, md = .overMetric o) := by
  have G_turn := k_turn (P := P) (base := base) T
  have G_begin_selector := k_begin_selector (P := P) (base := base) T
  obtain ⟨fd, F⟩ := T.d_at_over_metric
  refine ⟨fd, fn_ok F sc_at_over_metric (fun vs H Q E h => ?_) (fun cdv A outer s H vs Q E hr h => ?_), F.bindsN (fun _ _ _ _ _ _ us hl => match us, hl with | [_, _, _, _], _ => rfl), F.kp⟩
  · obtain ⟨_, _, _, _, _, _, _, _, rfl, _⟩ := h
    rfl
  obtain ⟨H0, p, _, md', co, co', tk, pl, rfl, ⟨o, rfl⟩, ⟨m, a, b, c, d, M, hmode, hR, C⟩, hs, q⟩ := h
  refine ⟨_, (pss_cons (ps_if (pt_cmpR op_eq (pv 1) pe_str (nomark _)) (pss_cons (ps_expr (pe_mt G_begin_selector hr (by omega) (pv 0) (pa_cons (pe_fld (pv 0) rfl) (pa_cons (pv 2) pa_nil))))
    (pss_one (ps_ret (pe_mt G_turn hr (by omega) (pv 0) (pa_cons pe_str pa_nil))))) pss_nil)
    (pss_one (ps_ret pe_bl))), ?_⟩
  have M0 := MT.start M
  walk_at "w0"
  cases hs with
  | overMetric _ me =>
    walk_at "tk"
    walk_at "m"
    refine c_begin M0 fun H1 r t1 M1 => ?_
    walk_at "m"
    refine c_turn M1 fun H' M' => ?_
    exact q H' ⟨_, _, _, _, _, M'.mo, rfl, ⟨hR, rfl, rfl, rfl⟩, C.mono M'.tu rfl rfl rfl⟩
theorem sc_at_over_named : FnScope (["machine", "sign", "value", "place"] : List Str) (["machine", "sign", "value", "place"] : List Str) (defScope s_at_over_named) := ⟨rfl, rfl, rfl, by decide +kernel, rfl, by decide +kernel, by decide +kernel⟩
theorem k_at_over_named (T : Txt w K mg) : Fk P w K mg base 6 "at_over_named" (fun md => ∃ o me, md = .overNamed o me) := by
  have G_turn := k_turn (P := P) (base := base) T
  have G_at_range_open := k_range (P := P) (base := base) T
  obtain ⟨fd, F⟩ := T.d_at_over_named
  refine ⟨fd, fn_ok F sc_at_over_named (fun vs H Q E h => ?_) (fun cdv A outer s H vs Q E hr h => ?_), F.bindsN (fun _ _ _ _ _ _ us hl => match us, hl with | [_, _, _, _], _ => rfl), F.kp⟩
  · obtain ⟨_, _, _, _, _, _, _, _, rfl, _⟩ := h
    rfl
  obtain ⟨H0, p, _, md', co, co', tk, pl, rfl, ⟨o, me, rfl⟩, ⟨m, a, b, c, d, M, hmode, hR, C⟩, hs, q⟩ := h
  refine ⟨_, (pss_cons (ps_if (pt_cmpR op_eq (pv 1) pe_str (nomark _)) (pss_cons (ps_fld (pv 0) pe_bl rfl)
    (pss_one (ps_ret (pe_mt G_turn hr (by omega) (pv 0) (pa_cons pe_str pa_nil))))) pss_nil)
    (pss_one (ps_ret (pe_c G_at_range_open hr (by omega) rfl (pa_cons (pv 0) (pa_cons (pv 1) (pa_cons (pv 2) (pa_cons (pv 3) pa_nil)))))))), ?_⟩
  have M0 := MT.start M
  walk_at "w0"
  cases hs with
  | overBrace =>
    walk_at "tk"
    walk_at "m"
    rename_i H1 M1
    refine c_turn M1 fun H' M' => ?_
    exact q H' ⟨_, _, _, _, _, M'.mo, rfl, SelR.mono M'.tu hR rfl rfl, C.mono M'.tu rfl rfl rfl⟩
  | overRange =>
    walk_at "tk"
    walk_at "m"
    refine ⟨H0, p, m, a, b, c, d, pl, rfl, M, fun H' M' => ?_⟩
    exact q H' ⟨_, _, _, _, _, M'.mo, rfl, SelR.mono M'.tu hR rfl rfl, C.mono M'.tu rfl rfl rfl⟩
theorem sc_at_label : FnScope (["machine", "sign", "value", "place"] : List Str) (["machine", "sign", "value", "place"] : List Str) (defScope s_at_label) := ⟨rfl, rfl, rfl, by decide +kernel, rfl, by decide +kernel, by decide +kernel⟩
theorem k_at_label (T : Txt w K mg) : Fk P w K mg base 6 "at_label" (fun md => ∃ o me ms, md = .label o me ms) := by
  have G_turn := k_turn (P := P) (base := base) T
  have G_finish_selector := k_finish_selector (P := P) (base := base) T
  obtain ⟨fd, F⟩ := T.d_at_label
  refine ⟨fd, fn_ok F sc_at_label (fun vs H Q E h => ?_) (fun cdv A outer s H vs Q E hr h => ?_), F.bindsN (fun _ _ _ _ _ _ us hl => match us, hl with | [_, _, _, _], _ => rfl), F.kp⟩
  · obtain ⟨_, _, _, _, _, _, _, _, rfl, _⟩ := h
    rfl
  obtain ⟨H0, p, _, md', co, co', tk, pl, rfl, ⟨o, me, ms, rfl⟩, ⟨m, a, b, c, d, M, hmode, hR, C⟩, hs, q⟩ := h
  refine ⟨_, (pss_cons (ps_if (PW.pt (pw_and (pt_cmpR op_eq (pv 1) pe_str (nomark _)) (pw_and1 (pt_cmpR op_ne (pv 2) pe_str (nomark _))))) (pss_cons (ps_fld (pv 0) (pv 2) rfl)
    (pss_one (ps_ret (pe_mt G_turn hr (by omega) (pv 0) (pa_cons pe_str pa_nil))))) pss_nil)
    (pss_cons (ps_if (PW.pt (pw_and (pt_cmpR op_eq (pv 1) pe_str (nomark _)) (pw_and1 (pt_val (pe_fld (pv 0) rfl))))) (pss_one (ps_ret (pe_mt0 G_finish_selector hr (by omega) (pv 0)))) pss_nil)
    (pss_one (ps_ret pe_bl)))), ?_⟩
  have M0 := MT.start M
  walk_at "w0"
  cases hs with
  | label l hl =>
    walk_at "tk"
    walk_at "m"
    refine i_T (by rw [decide_eq_false (fun e => hl (V.str.inj e))]; rfl) ?_
    walk_at "m"
    rename_i H1 M1
    refine c_turn M1 fun H' M' => ?_
    exact q H' ⟨_, _, _, _, _, M'.mo, rfl, ⟨SelR.mono M'.tu hR rfl rfl, rfl⟩, C.mono M'.tu rfl rfl rfl⟩
theorem sc_at_test : FnScope (["machine", "sign", "value", "place"] : List Str) (["machine", "sign", "value", "place"] : List Str) (defScope s_at_test) := ⟨rfl, rfl, rfl, by decide +kernel, rfl, by decide +kernel, by decide +kernel⟩
theorem k_at_test (T : Txt w K mg) : Fk P w K mg base 6 "at_test" (fun md => ∃ o me ms l, md = .test o me ms l) := by
  have G_turn := k_turn (P := P) (base := base) T
  obtain ⟨fd, F⟩ := T.d_at_test
  refine ⟨fd, fn_ok F sc_at_test (fun vs H Q E h => ?_) (fun cdv A outer s H vs Q E hr h => ?_), F.bindsN (fun _ _ _ _ _ _ us hl => match us, hl with | [_, _, _, _], _ => rfl), F.kp⟩
  · obtain ⟨_, _, _, _, _, _, _, _, rfl, _⟩ := h
    rfl
  obtain ⟨H0, p, _, md', co, co', tk, pl, rfl, ⟨o, me, ms, l, rfl⟩, ⟨m, a, b, c, d, M, hmode, hR, C⟩, hs, q⟩ := h
  refine ⟨_, (pss_cons (ps_fld (pv 0) (pe_lst pa_nil) rfl)
    (pss_cons (ps_fld (pv 0) (pe_and (pe_cmpR op_ne (pv 1) pe_str (nomark _)) (pe_one (pe_cmpR op_ne (pv 2) pe_str (nomark _)))) rfl)
    (pss_cons (ps_if (PW.pt (pw_or (pt_cmpR op_eq (pv 1) pe_str (nomark _)) (pw_or1 (pt_cmpR op_eq (pv 1) pe_str (nomark _))))) (pss_one (ps_ret (pe_mt G_turn hr (by omega) (pv 0) (pa_cons pe_str pa_nil)))) pss_nil)
    (pss_cons (ps_if (PW.pt (pw_and (pt_cmpR op_eq (pv 1) pe_str (nomark _)) (pw_and1 (pt_cmpR op_eq (pv 2) pe_str (nomark _))))) (pss_one (ps_ret (pe_mt G_turn hr (by omega) (pv 0) (pa_cons pe_str pa_nil)))) pss_nil)
    (pss_cons (ps_if (PW.pt (pw_and (pt_cmpR op_eq (pv 1) pe_str (nomark _)) (pw_and1 (pt_cmpR op_eq (pv 2) pe_str (nomark _))))) (pss_one (ps_ret (pe_mt G_turn hr (by omega) (pv 0) (pa_cons pe_str pa_nil)))) pss_nil)
    (pss_one (ps_ret pe_bl))))))), ?_⟩
  have M0 := MT.start M
  walk_at "w0"
  cases hs with
  | testEq =>
    walk_at "tk"
    walk_at "m"
    refine ⟨Nat.zero_le _, fun t ht => ?_⟩
    walk_at "m"
    refine s_found T M0 ht fun H1 M1 => ?_
    walk_at "m"
    rename_i H2 M2
    refine c_turn M2 fun H' M' => ?_
    exact q H' ⟨_, _, _, _, _, M'.mo, rfl, ⟨SelR.mono M'.tu hR.1 rfl rfl, hR.2, rfl, rfl⟩, C.mono M'.tu rfl rfl rfl⟩
  | testNe =>
    walk_at "tk"
    walk_at "m"
    refine ⟨Nat.zero_le _, fun t ht => ?_⟩
    walk_at "m"
    refine s_found T M0 ht fun H1 M1 => ?_
    walk_at "m"
    rename_i H2 M2
    refine c_turn M2 fun H' M' => ?_
    exact q H' ⟨_, _, _, _, _, M'.mo, rfl, ⟨SelR.mono M'.tu hR.1 rfl rfl, hR.2, rfl, rfl⟩, C.mono M'.tu rfl rfl rfl⟩
  | testIn =>
    walk_at "tk"
    walk_at "m"
    refine ⟨Nat.zero_le _, fun t ht => ?_⟩
    walk_at "m"
    refine s_found T M0 ht fun H1 M1 => ?_
    walk_at "m"
    rename_i H2 M2
    refine c_turn M2 fun H' M' => ?_
    exact q H' ⟨_, _, _, _, _, M'.mo, rfl, ⟨SelR.mono M'.tu hR.1 rfl rfl, hR.2, rfl, rfl⟩, C.mono M'.tu rfl rfl rfl⟩
  | testNot =>
    walk_at "tk"
    walk_at "m"
    refine ⟨Nat.zero_le _, fun t ht => ?_⟩
    walk_at "m"
    refine s_found T M0 ht fun H1 M1 => ?_
    walk_at "m"
    rename_i H2 M2
    refine c_turn M2 fun H' M' => ?_
    exact q H' ⟨_, _, _, _, _, M'.mo, rfl, ⟨SelR.mono M'.tu hR.1 rfl rfl, hR.2, rfl, rfl⟩, C.mono M'.tu rfl rfl rfl⟩
theorem sc_at_not_in : FnScope (["machine", "sign", "value", "place"] : List Str) (["machine", "sign", "value", "place"] : List Str) (defScope s_at_not_in) := ⟨rfl, rfl, rfl, by decide +kernel, rfl, by decide +kernel, by decide +kernel⟩
theorem k_at_not_in (T : Txt w K mg) : Fk P w K mg base 6 "at_not_in" (fun md => ∃ o me ms l, md = .notIn o me ms l) := by
  have G_turn := k_turn (P := P) (base := base) T
  obtain ⟨fd, F⟩ := T.d_at_not_in
  refine ⟨fd, fn_ok F sc_at_not_in (fun vs H Q E h => ?_) (fun cdv A outer s H vs Q E hr h => ?_), F.bindsN (fun _ _ _ _ _ _ us hl => match us, hl with | [_, _, _, _], _ => rfl), F.kp⟩
  · obtain ⟨_, _, _, _, _, _, _, _, rfl, _⟩ := h
    rfl
  obtain ⟨H0, p, _, md', co, co', tk, pl, rfl, ⟨o, me, ms, l, rfl⟩, ⟨m, a, b, c, d, M, hmode, hR, C⟩, hs, q⟩ := h
  refine ⟨_, (pss_cons (ps_if (PW.pt (pw_and (pt_cmpR op_eq (pv 1) pe_str (nomark _)) (pw_and1 (pt_cmpR op_eq (pv 2) pe_str (nomark _))))) (pss_one (ps_ret (pe_mt G_turn hr (by omega) (pv 0) (pa_cons pe_str pa_nil)))) pss_nil)
    (pss_one (ps_ret pe_bl))), ?_⟩
  have M0 := MT.start M
  walk_at "w0"
  cases hs with
  | notIn =>
    walk_at "tk"
    walk_at "m"
    refine c_turn M0 fun H' M' => ?_
    exact q H' ⟨_, _, _, _, _, M'.mo, rfl, ValR.mono M'.tu hR rfl rfl rfl rfl, C.mono M'.tu rfl rfl rfl⟩
theorem sc_at_value : FnScope (["machine", "sign", "value", "place"] : List Str) (["machine", "sign", "value", "place"] : List Str) (defScope s_at_value) := ⟨rfl, rfl, rfl, by decide +kernel, rfl, by decide +kernel, by decide +kernel⟩
theorem k_at_value (T : Txt w K mg) : Fk P w K mg base 6 "at_value" (fun md => ∃ o me ms l z, md = .value o me ms l z) := by
  have G_add_matcher := k_add_matcher (P := P) (base := base) T
  obtain ⟨fd, F⟩ := T.d_at_value
  refine ⟨fd, fn_ok F sc_at_value (fun vs H Q E h => ?_) (fun cdv A outer s H vs Q E hr h => ?_), F.bindsN (fun _ _ _ _ _ _ us hl => match us, hl with | [_, _, _, _], _ => rfl), F.kp⟩
  · obtain ⟨_, _, _, _, _, _, _, _, rfl, _⟩ := h
    rfl
  obtain ⟨H0, p, _, md', co, co', tk, pl, rfl, ⟨o, me, ms, l, z, rfl⟩, ⟨m, a, b, c, d, M, hmode, hR, C⟩, hs, q⟩ := h
  refine ⟨_, (pss_cons (ps_if (pt_cmpR op_eq (pv 1) pe_str (nomark _)) (pss_cons (ps_expr (pe_bm PySem.F.plainAttrs_list PySem.F.slot_list_append PySem.F.type_list_append mt_append (pe_fld (pv 0) rfl) (pa_cons (pv 2) pa_nil)))
    (pss_one (ps_ret (pe_mt0 G_add_matcher hr (by omega) (pv 0))))) pss_nil)
    (pss_one (ps_ret pe_bl))), ?_⟩
  have M0 := MT.start M
  walk_at "w0"
  obtain ⟨hsel, hlab, hins, hfo⟩ := hR
  have hfo' : c = [] := hfo
  subst hfo'
  cases hs with
  | value s hz =>
    walk_at "tk"
    walk_at "m"
    refine i_tyL (SqL.of M.fo) ?_
    walk_at "m"
    refine i_append M.fo (lt_line (by show 0 < 100000; omega)) ?_
    have M1 := M0.setFo (xs := [.str s])
    walk_at "m"
    refine c_addM M1 (by show 1 ≤ 6; omega) (by have := hsel.len; omega) fun H' t u h1 h2 t1 M' => ?_
    rw [hlab, hins] at h2
    refine q H' ⟨_, _, _, _, _, M'.mo, rfl, ⟨hsel.over, hsel.metric, ?_, MatsR.snoc (m := ⟨l, [s], z⟩) h2 h1 (hsel.mats.mono M'.tu)⟩, C.mono M'.tu rfl rfl rfl⟩
    rw [List.length_append, List.length_append, hsel.len]
    rfl
theorem sc_at_list_open : FnScope (["machine", "sign", "value", "place"] : List Str) (["machine", "sign", "value", "place"] : List Str) (defScope s_at_list_open) := ⟨rfl, rfl, rfl, by decide +kernel, rfl, by decide +kernel, by decide +kernel⟩
theorem k_at_list_open (T : Txt w K mg) : Fk P w K mg base 6 "at_list_open" (fun md => ∃ o me ms l z, md = .listOpen o me ms l z) := by
  have G_turn := k_turn (P := P) (base := base) T
  obtain ⟨fd, F⟩ := T.d_at_list_open
  refine ⟨fd, fn_ok F sc_at_list_open (fun vs H Q E h => ?_) (fun cdv A outer s H vs Q E hr h => ?_), F.bindsN (fun _ _ _ _ _ _ us hl => match us, hl with | [_, _, _, _], _ => rfl), F.kp⟩
  · obtain ⟨_, _, _, _, _, _, _, _, rfl, _⟩ := h
    rfl
  obtain ⟨H0, p, _, md', co, co', tk, pl, rfl, ⟨o, me, ms, l, z, rfl⟩, ⟨m, a, b, c, d, M, hmode, hR, C⟩, hs, q⟩ := h
  refine ⟨_, (pss_cons (ps_if (pt_cmpR op_eq (pv 1) pe_str (nomark _)) (pss_one (ps_ret (pe_mt G_turn hr (by omega) (pv 0) (pa_cons pe_str pa_nil)))) pss_nil)
    (pss_one (ps_ret pe_bl))), ?_⟩
  have M0 := MT.start M
  walk_at "w0"
  cases hs with
  | listOpen =>
    walk_at "tk"
    walk_at "m"
    refine c_turn M0 fun H' M' => ?_
    exact q H' ⟨_, _, _, _, _, M'.mo, rfl, ValR.mono M'.tu hR rfl rfl rfl rfl, C.mono M'.tu rfl rfl rfl⟩
theorem sc_at_item : FnScope (["machine", "sign", "value", "place"] : List Str) (["machine", "sign", "value", "place"] : List Str) (defScope s_at_item) := ⟨rfl, rfl, rfl, by decide +kernel, rfl, by decide +kernel, by decide +kernel⟩
theorem k_at_item (T : Txt w K mg) : Fk P w K mg base 6 "at_item" (fun md => ∃ o me ms l z fo, md = .item o me ms l z fo) := by
  have G_turn := k_turn (P := P) (base := base) T
  obtain ⟨fd, F⟩ := T.d_at_item
  refine ⟨fd, fn_ok F sc_at_item (fun vs H Q E h => ?_) (fun cdv A outer s H vs Q E hr h => ?_), F.bindsN (fun _ _ _ _ _ _ us hl => match us, hl with | [_, _, _, _], _ => rfl), F.kp⟩
  · obtain ⟨_, _, _, _, _, _, _, _, rfl, _⟩ := h
    rfl
  obtain ⟨H0, p, _, md', co, co', tk, pl, rfl, ⟨o, me, ms, l, z, fo, rfl⟩, ⟨m, a, b, c, d, M, hmode, hR, C⟩, hs, q⟩ := h
  refine ⟨_, (pss_cons (ps_if (pt_cmpR op_eq (pv 1) pe_str (nomark _)) (pss_cons (ps_expr (pe_bm PySem.F.plainAttrs_list PySem.F.slot_list_append PySem.F.type_list_append mt_append (pe_fld (pv 0) rfl) (pa_cons (pv 2) pa_nil)))
    (pss_one (ps_ret (pe_mt G_turn hr (by omega) (pv 0) (pa_cons pe_str pa_nil))))) pss_nil)
    (pss_one (ps_ret pe_bl))), ?_⟩
  have M0 := MT.start M
  walk_at "w0"
  obtain ⟨hsel, hlab, hins, hfo⟩ := hR
  cases hs with
  | item s hz =>
    walk_at "tk"
    walk_at "m"
    refine i_tyL (SqL.of M.fo) ?_
    walk_at "m"
    refine i_append M.fo (lt_line (by rw [hfo, List.length_map]; omega)) ?_
    have M1 := M0.setFo (xs := c ++ [.str s])
    walk_at "m"
    refine c_turn M1 fun H' M' => ?_
    exact q H' ⟨_, _, _, _, _, M'.mo, rfl, ⟨SelR.mono M'.tu hsel rfl rfl, hlab, hins, by rw [hfo, List.map_append]; rfl⟩, C.mono M'.tu rfl rfl rfl⟩
theorem sc_at_item_end : FnScope (["machine", "sign", "value", "place"] : List Str) (["machine", "sign", "value", "place"] : List Str) (defScope s_at_item_end) := ⟨rfl, rfl, rfl, by decide +kernel, rfl, by decide +kernel, by decide +kernel⟩
theorem k_at_item_end (T : Txt w K mg) : Fk P w K mg base 6 "at_item_end" (fun md => ∃ o me ms l z fo, md = .itemEnd o me ms l z fo) := by
  have G_turn := k_turn (P := P) (base := base) T
  have G_add_matcher := k_add_matcher (P := P) (base := base) T
  obtain ⟨fd, F⟩ := T.d_at_item_end
  refine ⟨fd, fn_ok F sc_at_item_end (fun vs H Q E h => ?_) (fun cdv A outer s H vs Q E hr h => ?_), F.bindsN (fun _ _ _ _ _ _ us hl => match us, hl with | [_, _, _, _], _ => rfl), F.kp⟩
  · obtain ⟨_, _, _, _, _, _, _, _, rfl, _⟩ := h
    rfl
  obtain ⟨H0, p, _, md', co, co', tk, pl, rfl, ⟨o, me, ms, l, z, fo, rfl⟩, ⟨m, a, b, c, d, M, hmode, hR, C⟩, hs, q⟩ := h
  refine ⟨_, (pss_cons (ps_if (pt_cmpR op_eq (pv 1) pe_str (nomark _)) (pss_one (ps_ret (pe_mt G_turn hr (by omega) (pv 0) (pa_cons pe_str pa_nil)))) pss_nil)
    (pss_cons (ps_if (pt_cmpR op_eq (pv 1) pe_str (nomark _)) (pss_one (ps_ret (pe_mt0 G_add_matcher hr (by omega) (pv 0)))) pss_nil)
    (pss_one (ps_ret pe_bl)))), ?_⟩
  have M0 := MT.start M
  walk_at "w0"
  obtain ⟨hsel, hlab, hins, hfo⟩ := hR
  cases hs with
  | itemMore =>
    walk_at "tk"
    walk_at "m"
    refine c_turn M0 fun H' M' => ?_
    exact q H' ⟨_, _, _, _, _, M'.mo, rfl, ⟨SelR.mono M'.tu hsel rfl rfl, hlab, hins, hfo⟩, C.mono M'.tu rfl rfl rfl⟩
  | itemEnd hf hz =>
    walk_at "tk"
    walk_at "m"
    refine c_addM M0 (by rw [hfo, List.length_map]; exact hf) (by have := hsel.len; omega) fun H' t u h1 h2 t1 M' => ?_
    rw [hlab, hins] at h2
    rw [hfo] at h1
    refine q H' ⟨_, _, _, _, _, M'.mo, rfl, ⟨hsel.over, hsel.metric, ?_, MatsR.snoc (m := ⟨l, fo, z⟩) h2 h1 (hsel.mats.mono M'.tu)⟩, C.mono M'.tu rfl rfl rfl⟩
    rw [List.length_append, List.length_append, hsel.len]
    rfl
theorem sc_at_matched : FnScope (["machine", "sign", "value", "place"] : List Str) (["machine", "sign", "value", "place"] : List Str) (defScope s_at_matched) := ⟨rfl, rfl, rfl, by decide +kernel, rfl, by decide +kernel, by decide +kernel⟩
theorem k_at_matched (T : Txt w K mg) : Fk P w K mg base 6 "at_matched" (fun md => ∃ o me ms, md = .matched o me ms) := by
  have G_turn := k_turn (P := P) (base := base) T
  have G_finish_selector := k_finish_selector (P := P) (base := base) T
  obtain ⟨fd, F⟩ := T.d_at_matched
  refine ⟨fd, fn_ok F sc_at_matched (fun vs H Q E h => ?_) (fun cdv A outer s H vs Q E hr h => ?_), F.bindsN (fun _ _ _ _ _ _ us hl => match us, hl with | [_, _, _, _], _ => rfl), F.kp⟩
  · obtain ⟨_, _, _, _, _, _, _, _, rfl, _⟩ := h
    rfl
  obtain ⟨H0, p, _, md', co, co', tk, pl, rfl, ⟨o, me, ms, rfl⟩, ⟨m, a, b, c, d, M, hmode, hR, C⟩, hs, q⟩ := h
  refine ⟨_, (pss_cons (ps_if (pt_cmpR op_eq (pv 1) pe_str (nomark _)) (pss_cons (ps_fld (pv 0) pe_bl rfl)
    (pss_one (ps_ret (pe_mt G_turn hr (by omega) (pv 0) (pa_cons pe_str pa_nil))))) pss_nil)
    (pss_cons (ps_if (pt_cmpR op_eq (pv 1) pe_str (nomark _)) (pss_one (ps_ret (pe_mt0 G_finish_selector hr (by omega) (pv 0)))) pss_nil)
    (pss_one (ps_ret pe_bl)))), ?_⟩
  have M0 := MT.start M
  walk_at "w0"
  cases hs with
  | matchedMore =>
    walk_at "tk"
    walk_at "m"
    rename_i H1 M1
    refine c_turn M1 fun H' M' => ?_
    exact q H' ⟨_, _, _, _, _, M'.mo, rfl, SelR.mono M'.tu hR rfl rfl, C.mono M'.tu rfl rfl rfl⟩
  | matchedEnd hm =>
    walk_at "tk"
    walk_at "m"
    have hb : b.length ≤ 6 := by have := SelR.len hR; omega
    cases o with
    | none =>
      refine c_finSel M0 hb (SelR.over hR) fun H' t u s h1 h2 h3 t1 M' => ?_
      rw [SelR.metric hR] at h2
      refine q H' ⟨_, _, _, _, _, M'.mo, rfl, trivial, ⟨C.st.mono t1, fun e he => by cases he; exact ⟨t, .ref u, true, rfl, h3, ⟨u, s, b, rfl, h2, h1, (SelR.mats hR).mono t1⟩, rfl⟩, ?_, C.ops, C.spans.mono t1, C.len⟩⟩
      show m.sel + 1 = ((co.sel + 1 : Nat) : Int)
      rw [C.sel]
      rfl
    | some o =>
      refine c_finSelO M0 hb (by rw [SelR.over hR]; exact ow_ne o) fun H' t1 M' => ?_
      exact q H' ⟨_, _, _, _, _, M'.mo, rfl, SelR.mono t1 hR rfl rfl, C.mono t1 rfl rfl rfl⟩
/-! ### a word where an operand was expected -/
theorem k_done (T : Txt w K mg) : Cal P w K mg base 5 "at_done" (spDone K) := by
  obtain ⟨fd, F, b, k⟩ := fn_at_done (P := P) (base := base) T
  exact ⟨_, fd, _, F, T.g_at_done, k, b⟩
theorem k_at_done (T : Txt w K mg) : Fk P w K mg base 6 "at_done" (fun md => md = .done) := by
  obtain ⟨fd, F, b, k⟩ := fn_at_done (P := P) (base := base) T
  refine ⟨fd, (F.mono (by omega)).imp ?_, b, k⟩
  rintro vs H Q E ⟨H0, p, _, md', co, co', tk, pl, rfl, rfl, A, hs, q⟩
  cases hs with
  | done h => exact ⟨H0, p, _, md', co, co, co', tk, pl, rfl, A, .inl ⟨rfl, rfl⟩, h, q⟩
theorem sc_at_named : FnScope (["machine", "sign", "value", "place"] : List Str) (["machine", "sign", "value", "place"] : List Str) (defScope s_at_named) := ⟨rfl, rfl, rfl, by decide +kernel, rfl, by decide +kernel, by decide +kernel⟩
theorem k_at_named (T : Txt w K mg) : Fk P w K mg base 6 "at_named" (fun md => ∃ wd, md = .named wd) := by
  have G_turn := k_turn (P := P) (base := base) T
  have G_begin_selector := k_begin_selector (P := P) (base := base) T
  have G_open_aggregate := k_open_aggregate (P := P) (base := base) T
  have G_at_done := k_done (P := P) (base := base) T
  obtain ⟨fd, F⟩ := T.d_at_named
  refine ⟨fd, fn_ok F sc_at_named (fun vs H Q E h => ?_) (fun cdv A outer s H vs Q E hr h => ?_), F.bindsN (fun _ _ _ _ _ _ us hl => match us, hl with | [_, _, _, _], _ => rfl), F.kp⟩
  · obtain ⟨_, _, _, _, _, _, _, _, rfl, _⟩ := h
    rfl
  obtain ⟨H0, p, _, md', co, co', tk, pl, rfl, ⟨wd, rfl⟩, ⟨m, a, b, c, d, M, hmode, hR, C⟩, hs, q⟩ := h
  refine ⟨_, (pss_cons (ps_if (pt_cmpR op_eq (pv 1) pe_str (nomark _)) (pss_cons (ps_if (pt_cmpR op_in_seq (pe_fld (pv 0) rfl) (pe_globR rfl T.g_OVER_WORDS) rfl) (pss_one (ps_ret (pe_mt G_turn hr (by omega) (pv 0) (pa_cons pe_str pa_nil)))) pss_nil)
    (pss_cons (ps_if (pt_cmpR op_in_seq (pe_fld (pv 0) rfl) (pe_globR rfl T.g_AGGREGATE_WORDS) rfl) (pss_one (ps_ret (pe_mt G_open_aggregate hr (by omega) (pv 0) (pa_cons (pe_lst pa_nil) pa_nil)))) pss_nil)
    (pss_one (ps_ret pe_bl)))) pss_nil)
    (pss_cons (ps_if (pt_cmpR op_eq (pv 1) pe_str (nomark _)) (pss_cons (ps_expr (pe_mt G_begin_selector hr (by omega) (pv 0) (pa_cons pe_str (pa_cons (pe_fld (pv 0) rfl) pa_nil))))
    (pss_cons (ps_fld (pv 0) pe_bl rfl)
    (pss_one (ps_ret (pe_mt G_turn hr (by omega) (pv 0) (pa_cons pe_str pa_nil)))))) pss_nil)
    (pss_cons (ps_if (PW.pt (pw_and (pt_cmpR op_eq (pv 1) pe_str (nomark _)) (pw_and1 (pt_cmpR op_eq (pv 2) pe_str (nomark _))))) (pss_cons (ps_if (pt_cmpR op_in_seq (pe_fld (pv 0) rfl) (pe_globR rfl T.g_AGGREGATE_WORDS) rfl) (pss_one (ps_ret (pe_mt G_turn hr (by omega) (pv 0) (pa_cons pe_str pa_nil)))) pss_nil)
    (pss_one (ps_ret pe_bl))) pss_nil)
    (pss_one (ps_ret (pe_c G_at_done hr (by omega) rfl (pa_cons (pv 0) (pa_cons (pv 1) (pa_cons (pv 2) (pa_cons (pv 3) pa_nil)))))))))), ?_⟩
  have M0 := MT.start M
  have hw : m.word = wd := hR
  walk_at "w0"
  cases hs with
  | overOpen o =>
    walk_at "tk"
    walk_at "m"
    refine i_rIn (.inr (T.t_OVER_WORDS _)) rfl rfl ?_
    walk_at "m"
    refine i_T (by rw [hw]; cases o <;> decide +kernel) ?_
    walk_at "m"
    refine c_turn M0 fun H' M' => ?_
    exact q H' ⟨_, _, _, _, _, M'.mo, rfl, hR, C.mono M'.tu rfl rfl rfl⟩
  | aggOpen0 aw hz =>
    walk_at "tk"
    walk_at "m"
    refine i_rIn (.inr (T.t_OVER_WORDS _)) rfl rfl ?_
    walk_at "m"
    refine i_F (by rw [hw]; cases aw <;> decide +kernel) ?_
    walk_at "m"
    refine i_rIn (.inr (T.t_AGGREGATE_WORDS _)) rfl rfl ?_
    walk_at "m"
    refine i_T (by rw [hw]; cases aw <;> decide +kernel) ?_
    walk_at "m"
    refine ⟨Nat.zero_le _, fun l hl => ?_⟩
    have t0 := tup_new (K := K) (o := .lst []) hl
    have M1 := M0.grow (o := .lst []) hl
    walk_at "m"
    refine c_openA M1 (SqL.of upd_same) (Nat.zero_le _) (by have := C.st.len; omega) fun H' t u h1 h2 t1 M' => ?_
    rw [hw] at h2
    have ts := t0.trans t1
    exact q H' ⟨_, _, _, _, _, M'.mo, rfl, trivial, ⟨⟨a, .ref t, rfl, ⟨t, u, _, rfl, h2, h1⟩, C.st.mono ts⟩, fun e he => (C.made e he).mono ts, C.sel, C.ops, C.spans.mono ts, C.len⟩⟩
  | brace =>
    walk_at "tk"
    walk_at "m"
    refine c_begin M0 fun H1 r t1 M1 => ?_
    walk_at "m"
    rename_i H2 M2
    refine c_turn M2 fun H' M' => ?_
    exact q H' ⟨_, _, _, _, _, M'.mo, rfl, ⟨rfl, hw, rfl, rfl⟩, C.mono M'.tu rfl rfl rfl⟩
  | «by» aw =>
    walk_at "tk"
    walk_at "m"
    refine i_rIn (.inr (T.t_AGGREGATE_WORDS _)) rfl rfl ?_
    walk_at "m"
    refine i_T (by rw [hw]; cases aw <;> decide +kernel) ?_
    walk_at "m"
    refine c_turn M0 fun H' M' => ?_
    exact q H' ⟨_, _, _, _, _, M'.mo, rfl, hR, C.mono M'.tu rfl rfl rfl⟩
  | namedDone _ hd =>
    have fin : ∀ {Q' : VK}, (∀ H', MA K H0 H' p md' co' → Q' (.bl true) H') → spDone K [.ref p, .str tk.sign, tk.val, .int pl] H Q' E0 := fun {Q'} qq =>
      ⟨H0, p, .named wd, md', co, co.named wd, co', tk, pl, rfl, ⟨m, a, b, c, d, M, hmode, hR, C⟩, .inr ⟨wd, rfl, rfl⟩, hd, qq⟩
    have hsg : tk.sign ≠ "(" ∧ tk.sign ≠ "{" ∧ (tk.sign = "word" → ∃ z, tk.val = .str z ∧ z ≠ "by") := by
      cases hd with
      | op o he hc hz =>
        refine ⟨?_, ?_, ?_⟩
        · cases o <;> (intro e; exact absurd e (by decide +kernel))
        · cases o <;> (intro e; exact absurd e (by decide +kernel))
        · intro e
          refine ⟨o.str, ?_, by cases o <;> decide +kernel⟩
          unfold Op.tk
          split <;> rfl
      | close he hc => exact ⟨by decide +kernel, by decide +kernel, fun e => absurd e (by decide +kernel)⟩
      | agg he hc hk => exact ⟨by decide +kernel, by decide +kernel, fun e => absurd e (by decide +kernel)⟩
    obtain ⟨h1, h2, h3⟩ := hsg
    walk_at "m"
    refine i_F (decide_eq_false (fun e => h1 (V.str.inj e))) ?_
    walk_at "m"
    refine i_F (decide_eq_false (fun e => h2 (V.str.inj e))) ?_
    walk_at "m"
    by_cases hwd : tk.sign = "word"
    · obtain ⟨z, ez, hz⟩ := h3 hwd
      refine i_T (by rw [hwd]; decide +kernel) ?_
      walk_at "m"
      refine i_rEq (by rw [ez]; rfl) ?_
      refine i_bl ?_
      refine i_F (decide_eq_false (fun e => hz (V.str.inj (ez.symm.trans e)))) ?_
      walk_at "m"
      exact fin q
    · refine i_F (decide_eq_false (fun e => hwd (V.str.inj e))) ?_
      walk_at "m"
      exact fin q
end
end Wf


set_option Elab.async false
set_option linter.all false
set_option maxRecDepth 100000
set_option maxHeartbeats 4000000
namespace Wf
open PySem PySem.Spec PyProof.Rows L2
open C8 (pe_gc)
local macro_rules | `(tactic| walk_at "w1") => `(tactic| first
  | with_reducible refine i_seq ?_
  | with_reducible refine i_asg ?_
  | with_reducible refine i_gname ?_
  | ((with_reducible refine' i_var ?ivar ?imain); (case ivar => exact rfl))
  | with_reducible refine i_c ?_
  | with_reducible refine i_op ?_
  | with_reducible refine i_if ?_
  | with_reducible refine i_test ?_
  | with_reducible refine i_tB ?_
  | with_reducible refine i_bl ?_
  | with_reducible refine i_ret ?_
  | with_reducible refine i_retN ?_
  | with_reducible refine i_drop ?_
  | with_reducible refine i_next ?_
  | with_reducible refine i_cons ?_
  | with_reducible refine i_nil ?_
  | with_reducible refine i_cb ?_
  | with_reducible refine i_tup ?_
  | with_reducible refine i_lst ?_
  | with_reducible refine i_fld ?_
  | with_reducible refine i_sfld ?_
  | with_reducible refine i_call ?_
  | with_reducible refine i_meth ?_
  | with_reducible refine i_and ?_
  | with_reducible refine i_or ?_
  | with_reducible refine i_not ?_
  | with_reducible refine i_andV ?_
  | with_reducible refine i_orV ?_
  | with_reducible refine i_notV ?_
  | with_reducible refine i_ifV ?_
  | with_reducible refine i_un ?_
  | with_reducible refine i_neg ?_
  | with_reducible refine i_gcons ?_
  | with_reducible refine i_sl ?_
  | with_reducible refine i_part ?_
  | with_reducible refine i_nopart ?_
  | with_reducible refine i_int ?_
  | with_reducible refine i_inS ?_
  | with_reducible refine i_notInS ?_
  | with_reducible refine i_tyS ?_
  | with_reducible refine i_forL ?_
  | with_reducible refine i_forT ?_
  | with_reducible refine i_forR1 ?_
  | with_reducible refine i_bm ?_
  | with_reducible refine i_bm0 ?_
  | with_reducible refine i_gnil ?_
  | with_reducible refine i_rI0 ?_
  | with_reducible refine i_rIsN ?_
  | with_reducible refine i_rNotN ?_
  | with_reducible refine i_rInt ?_
  | ((with_reducible refine i_rEq ?isc ?imain); (case isc => exact rfl))
  | ((with_reducible refine i_rNe ?isc ?imain); (case isc => exact rfl))
  | with_reducible refine i_T rfl ?_
  | with_reducible refine i_F rfl ?_
  | ((refine' i_T ?icnd ?imain); (case icnd => decide +kernel))
  | ((refine' i_F ?icnd ?imain); (case icnd => decide +kernel))
  | fail)
local macro_rules | `(tactic| walk_at "w") => `(tactic| (repeat' walk_at "w1"))
local macro_rules | `(tactic| walk_at "w0") => `(tactic| (simp only [cxOf, L2.start, List.map_cons, List.map_nil, List.length_cons, List.length_nil, Nat.reduceAdd, Nat.reduceSub, Nat.zero_add, List.replicate_zero, List.replicate_succ, List.cons_append, List.nil_append]))
local macro_rules | `(tactic| walk_at "tk") => `(tactic| (simp only [Tk.sign, Tk.val]))
local macro_rules | `(tactic| walk_at "c") => `(tactic| (dsimp only [List.set_cons_zero, List.set_cons_succ, List.cons_append, List.nil_append]))

local macro_rules | `(tactic| walk_at "m1") => `(tactic| first
  | walk_at "w1"
  | ((with_reducible refine' g_mode ?T ?M ?h); (case T => assumption); (case M => assumption))
  | ((with_reducible refine' g_first ?T ?M ?h); (case T => assumption); (case M => assumption))
  | ((with_reducible refine' g_stack ?T ?M ?h); (case T => assumption); (case M => assumption))
  | ((with_reducible refine' g_made ?T ?M ?h); (case T => assumption); (case M => assumption))
  | ((with_reducible refine' g_word ?T ?M ?h); (case T => assumption); (case M => assumption))
  | ((with_reducible refine' g_place ?T ?M ?h); (case T => assumption); (case M => assumption))
  | ((with_reducible refine' g_over ?T ?M ?h); (case T => assumption); (case M => assumption))
  | ((with_reducible refine' g_metric ?T ?M ?h); (case T => assumption); (case M => assumption))
  | ((with_reducible refine' g_matchers ?T ?M ?h); (case T => assumption); (case M => assumption))
  | ((with_reducible refine' g_label ?T ?M ?h); (case T => assumption); (case M => assumption))
  | ((with_reducible refine' g_inside ?T ?M ?h); (case T => assumption); (case M => assumption))
  | ((with_reducible refine' g_found ?T ?M ?h); (case T => assumption); (case M => assumption))
  | ((with_reducible refine' g_span ?T ?M ?h); (case T => assumption); (case M => assumption))
  | ((with_reducible refine' g_spans ?T ?M ?h); (case T => assumption); (case M => assumption))
  | ((with_reducible refine' g_selectors ?T ?M ?h); (case T => assumption); (case M => assumption))
  | ((with_reducible refine' g_operators ?T ?M ?h); (case T => assumption); (case M => assumption))
  | ((with_reducible refine' g_many ?T ?M ?h); (case T => assumption); (case M => assumption))
  | ((with_reducible refine' g_unkind ?T ?M ?h); (case T => assumption); (case M => assumption))
  | ((with_reducible refine' s_mode ?T ?M ?h); (case T => assumption); (case M => assumption); intro _ _)
  | ((with_reducible refine' s_first ?T ?M ?h); (case T => assumption); (case M => assumption); intro _ _)
  | ((with_reducible refine' s_made ?T ?M ?h); (case T => assumption); (case M => assumption); intro _ _)
  | ((with_reducible refine' s_word ?T ?M ?h); (case T => assumption); (case M => assumption); intro _ _)
  | ((with_reducible refine' s_place ?T ?M ?h); (case T => assumption); (case M => assumption); intro _ _)
  | ((with_reducible refine' s_over ?T ?M ?h); (case T => assumption); (case M => assumption); intro _ _)
  | ((with_reducible refine' s_metric ?T ?M ?h); (case T => assumption); (case M => assumption); intro _ _)
  | ((with_reducible refine' s_label ?T ?M ?h); (case T => assumption); (case M => assumption); intro _ _)
  | ((with_reducible refine' s_inside ?T ?M ?h); (case T => assumption); (case M => assumption); intro _ _)
  | ((with_reducible refine' s_span ?T ?M ?h); (case T => assumption); (case M => assumption); intro _ _)
  | ((with_reducible refine' s_selectors ?T ?M ?h); (case T => assumption); (case M => assumption); intro _ _)
  | ((with_reducible refine' s_operators ?T ?M ?h); (case T => assumption); (case M => assumption); intro _ _)
  | ((with_reducible refine' g_meth ?M ?l ?h); (case M => assumption); (case l => first | exact nol_turn _ | exact nol_finish_operand _ | exact nol_begin_selector _ | exact nol_finish_selector _ | exact nol_finish_over _ | exact nol_add_matcher _ | exact nol_judge _ | exact nol_combine _ | exact nol_close _ | exact nol_open_aggregate _ | exact nol_end_named _ | exact nol_has_open _ | exact nol_can_end _))
  | fail)
local macro_rules | `(tactic| walk_at "m") => `(tactic| (repeat' walk_at "m1"))

section
variable {P : Program} {w : World} {K : PySem.W.Frag} {mg : Str → Option Value} {base : Heap} {H0 Hb H : Hp} {p : Addr} {m : MF} {a b c d : List V}
def Md.fn : Md → Str
  | .operand => "at_operand" | .negative => "at_negative" | .done => "at_done" | .named _ => "at_named" | .overMetric _ => "at_over_metric" | .overNamed _ _ => "at_over_named"
  | .label _ _ _ => "at_label" | .test _ _ _ _ => "at_test" | .notIn _ _ _ _ => "at_not_in" | .value _ _ _ _ _ => "at_value" | .listOpen _ _ _ _ _ => "at_list_open"
  | .item _ _ _ _ _ _ => "at_item" | .itemEnd _ _ _ _ _ _ => "at_item_end" | .matched _ _ _ => "at_matched" | .rangeOpen _ _ _ => "at_range_open" | .span _ _ _ => "at_span"
  | .spanEnd _ _ _ _ => "at_span_end" | .overClose _ _ _ _ => "at_over_close" | .byOpen _ => "at_by_open" | .byName _ _ => "at_by_name" | .byEnd _ _ => "at_by_end" | .aggOpen _ _ => "at_aggregate_open"
theorem Fk.to {k : Nat} {x : Str} {Pm : Md → Prop} {md : Md} (h : Fk P w K mg base k x Pm) (hk : k ≤ 6) (hm : Pm md) : Fk P w K mg base 6 x (· = md) := by
  obtain ⟨fd, F, b, kp⟩ := h
  refine ⟨fd, (F.mono hk).imp ?_, b, kp⟩
  rintro vs H Q E ⟨H0, p, md1, md', co, co', tk, pl, e1, rfl, A, hs, q⟩
  exact ⟨H0, p, md1, md', co, co', tk, pl, e1, hm, A, hs, q⟩
theorem action (T : Txt w K mg) (md : Md) : Fk P w K mg base 6 md.fn (· = md) := by
  cases md with
  | operand => exact (k_at_operand T).to (by omega) rfl
  | negative => exact (k_at_negative T).to (by omega) rfl
  | done => exact (k_at_done T).to (by omega) rfl
  | named wd => exact (k_at_named T).to (by omega) ⟨wd, rfl⟩
  | overMetric o => exact (k_at_over_metric T).to (by omega) ⟨o, rfl⟩
  | overNamed o me => exact (k_at_over_named T).to (by omega) ⟨o, me, rfl⟩
  | label o me ms => exact (k_at_label T).to (by omega) ⟨o, me, ms, rfl⟩
  | test o me ms l => exact (k_at_test T).to (by omega) ⟨o, me, ms, l, rfl⟩
  | notIn o me ms l => exact (k_at_not_in T).to (by omega) ⟨o, me, ms, l, rfl⟩
  | value o me ms l z => exact (k_at_value T).to (by omega) ⟨o, me, ms, l, z, rfl⟩
  | listOpen o me ms l z => exact (k_at_list_open T).to (by omega) ⟨o, me, ms, l, z, rfl⟩
  | item o me ms l z fo => exact (k_at_item T).to (by omega) ⟨o, me, ms, l, z, fo, rfl⟩
  | itemEnd o me ms l z fo => exact (k_at_item_end T).to (by omega) ⟨o, me, ms, l, z, fo, rfl⟩
  | matched o me ms => exact (k_at_matched T).to (by omega) ⟨o, me, ms, rfl⟩
  | rangeOpen o me ms => exact (k_at_range_open T).to (by omega) ⟨o, me, ms, rfl⟩
  | span o me ms => exact (k_at_span T).to (by omega) ⟨o, me, ms, rfl⟩
  | spanEnd o me ms n => exact (k_at_span_end T).to (by omega) ⟨o, me, ms, n, rfl⟩
  | overClose o me ms n => exact (k_at_over_close T).to (by omega) ⟨o, me, ms, n, rfl⟩
  | byOpen o => exact (k_at_by_open T).to (by omega) ⟨o, rfl⟩
  | byName o fo => exact (k_at_by_name T).to (by omega) ⟨o, fo, rfl⟩
  | byEnd o fo => exact (k_at_by_end T).to (by omega) ⟨o, fo, rfl⟩
  | aggOpen o fo => exact (k_at_aggregate_open T).to (by omega) ⟨o, fo, rfl⟩
theorem action_at (T : Txt w K mg) (md : Md) : KDct K w (He.ga K "ACTIONS") md.str (.ref (He.ga K md.fn)) := by
  obtain ⟨es, n, D⟩ := T.kd_ACTIONS
  have h : (md.str, md.fn) ∈ actionsL := by cases md <;> simp [actionsL, actionsL0, actionsL1, actionsL2, Md.str, Md.fn]
  obtain ⟨u, h1, h2⟩ := T.v_ACTIONS _ h
  exact ⟨es, n, u, D.at_, D.lit, h1, h2⟩
def spTake (K : PySem.W.Frag) : Sp := fun vs H Q _ => ∃ (H0 : Hp) (p : Addr) (md md' : Md) (co co' : Core) (tk : Tk) (v : V), vs = [.ref p, v] ∧ MA K H0 H p md co ∧ TokR K H tk v ∧ Step md co tk md' co' ∧ ∀ H', MA K H0 H' p md' co' → Q (.bl true) H'
theorem sc_take : FnScope (["machine", "token", "kind", "value", "place", "sign", "action"] : List Str) (["machine", "token"] : List Str) (defScope s_take) := ⟨rfl, rfl, rfl, by decide +kernel, rfl, by decide +kernel, by decide +kernel⟩
theorem k_take (T : Txt w K mg) : Cal P w K mg base 7 "take" (spTake K) := by
  obtain ⟨fd, F⟩ := T.d_take
  refine ⟨_, fd, ["machine", "token"], fn_ok F sc_take (fun vs H Q E h => ?_) (fun cdv A outer s H vs Q E hr h => ?_), T.g_take, F.kp, F.bindsN (fun _ _ _ _ _ _ us hl => match us, hl with | [_, _], _ => rfl)⟩
  · obtain ⟨_, _, _, _, _, _, _, _, rfl, _⟩ := h
    rfl
  obtain ⟨H0, p, md, md', co, co', tk, v, rfl, ⟨m, a, b, c, d, M, hmode, hR, C⟩, ⟨t, pl, rfl, ht⟩, hs, q⟩ := h
  obtain ⟨fdA, G_action, bG_action, kG_action⟩ := action (P := P) (base := base) T md
  refine ⟨_, (pss_cons (ps_asg (pv 1) (pg_tup (by rfl) (pgs_cons (pg_name (i := 2) sc_take.nd rfl (by first | exact Or.inl rfl | exact Or.inr rfl)) (pgs_cons (pg_name (i := 3) sc_take.nd rfl (by first | exact Or.inl rfl | exact Or.inr rfl)) (pgs_cons (pg_name (i := 4) sc_take.nd rfl (by first | exact Or.inl rfl | exact Or.inr rfl)) pgs_nil)))))
    (pss_cons (ps_set (i := 5) sc_take.nd rfl (by first | exact Or.inl rfl | exact Or.inr rfl) (pv 2))
    (pss_cons (ps_if (pt_cmpR op_eq (pv 2) pe_str (nomark _)) (pss_one (ps_set (i := 5) sc_take.nd rfl (by first | exact Or.inl rfl | exact Or.inr rfl) (pv 3))) pss_nil)
    (pss_cons (ps_set (i := 6) sc_take.nd rfl (by first | exact Or.inl rfl | exact Or.inr rfl) (pe_ix ix_kdict (pe_globR rfl T.g_ACTIONS) (pe_fld (pv 0) rfl) (fun _ _ => rfl)))
    (pss_one (ps_ret (pe_callL (i := 6) G_action hr rfl (Or.inl rfl) kG_action bG_action .nil pass0 (pa_cons (pv 0) (pa_cons (pv 5) (pa_cons (pv 3) (pa_cons (pv 4) pa_nil))))))))))), ?_⟩
  have M0 := MT.start M
  have fin : ∀ {Q' : VK}, (∀ H', MA K H0 H' p md' co' → Q' (.bl true) H') → spAt K (· = md) [.ref p, .str tk.sign, tk.val, .int pl] H Q' E0 := fun {Q'} qq =>
    ⟨H0, p, md, md', co, co', tk, pl, rfl, rfl, ⟨m, a, b, c, d, M, hmode, hR, C⟩, hs, qq⟩
  walk_at "w0"
  walk_at "m"
  refine i_gtup ht rfl ?_
  walk_at "m"
  cases tk with
  | sym s =>
    refine i_T (by show decide (V.str "symbol" = V.str "symbol") = true; decide +kernel) ?_
    walk_at "m"
    refine i_rIxD (by rw [hmode]; exact action_at T md) ?_
    walk_at "m"
    refine ⟨rfl, ?_⟩
    walk_at "m"
    exact fin q
  | word s =>
    refine i_F (by show decide (V.str "word" = V.str "symbol") = false; decide +kernel) ?_
    walk_at "m"
    refine i_rIxD (by rw [hmode]; exact action_at T md) ?_
    walk_at "m"
    refine ⟨rfl, ?_⟩
    walk_at "m"
    exact fin q
  | num s =>
    refine i_F (by show decide (V.str "number" = V.str "symbol") = false; decide +kernel) ?_
    walk_at "m"
    refine i_rIxD (by rw [hmode]; exact action_at T md) ?_
    walk_at "m"
    refine ⟨rfl, ?_⟩
    walk_at "m"
    exact fin q
  | str s =>
    refine i_F (by show decide (V.str "string" = V.str "symbol") = false; decide +kernel) ?_
    walk_at "m"
    refine i_rIxD (by rw [hmode]; exact action_at T md) ?_
    walk_at "m"
    refine ⟨rfl, ?_⟩
    walk_at "m"
    exact fin q
end
end Wf


set_option Elab.async false
set_option linter.all false
set_option maxRecDepth 100000
set_option maxHeartbeats 4000000
namespace Wf
open PySem PySem.Spec PyProof.Rows L2
open C8 (pe_gc)
local macro_rules | `(tactic| walk_at "w1") => `(tactic| first
  | with_reducible refine i_seq ?_
  | with_reducible refine i_asg ?_
  | with_reducible refine i_gname ?_
  | ((with_reducible refine' i_var ?ivar ?imain); (case ivar => exact rfl))
  | with_reducible refine i_c ?_
  | with_reducible refine i_op ?_
  | with_reducible refine i_if ?_
  | with_reducible refine i_test ?_
  | with_reducible refine i_tB ?_
  | with_reducible refine i_bl ?_
  | with_reducible refine i_ret ?_
  | with_reducible refine i_retN ?_
  | with_reducible refine i_drop ?_
  | with_reducible refine i_next ?_
  | with_reducible refine i_cons ?_
  | with_reducible refine i_nil ?_
  | with_reducible refine i_cb ?_
  | with_reducible refine i_tup ?_
  | with_reducible refine i_lst ?_
  | with_reducible refine i_fld ?_
  | with_reducible refine i_sfld ?_
  | with_reducible refine i_call ?_
  | with_reducible refine i_meth ?_
  | with_reducible refine i_and ?_
  | with_reducible refine i_or ?_
  | with_reducible refine i_not ?_
  | with_reducible refine i_andV ?_
  | with_reducible refine i_orV ?_
  | with_reducible refine i_notV ?_
  | with_reducible refine i_ifV ?_
  | with_reducible refine i_un ?_
  | with_reducible refine i_neg ?_
  | with_reducible refine i_gcons ?_
  | with_reducible refine i_sl ?_
  | with_reducible refine i_part ?_
  | with_reducible refine i_nopart ?_
  | with_reducible refine i_int ?_
  | with_reducible refine i_inS ?_
  | with_reducible refine i_notInS ?_
  | with_reducible refine i_tyS ?_
  | with_reducible refine i_forL ?_
  | with_reducible refine i_forT ?_
  | with_reducible refine i_forR1 ?_
  | with_reducible refine i_bm ?_
  | with_reducible refine i_bm0 ?_
  | with_reducible refine i_gnil ?_
  | with_reducible refine i_rI0 ?_
  | with_reducible refine i_rIsN ?_
  | with_reducible refine i_rNotN ?_
  | with_reducible refine i_rInt ?_
  | ((with_reducible refine i_rEq ?isc ?imain); (case isc => exact rfl))
  | ((with_reducible refine i_rNe ?isc ?imain); (case isc => exact rfl))
  | with_reducible refine i_T rfl ?_
  | with_reducible refine i_F rfl ?_
  | ((refine' i_T ?icnd ?imain); (case icnd => decide +kernel))
  | ((refine' i_F ?icnd ?imain); (case icnd => decide +kernel))
  | fail)
local macro_rules | `(tactic| walk_at "w") => `(tactic| (repeat' walk_at "w1"))
local macro_rules | `(tactic| walk_at "w0") => `(tactic| (simp only [cxOf, L2.start, List.map_cons, List.map_nil, List.length_cons, List.length_nil, Nat.reduceAdd, Nat.reduceSub, Nat.zero_add, List.replicate_zero, List.replicate_succ, List.cons_append, List.nil_append]))
local macro_rules | `(tactic| walk_at "tk") => `(tactic| (simp only [Tk.sign, Tk.val]))
local macro_rules | `(tactic| walk_at "c") => `(tactic| (dsimp only [List.set_cons_zero, List.set_cons_succ, List.cons_append, List.nil_append]))

local macro_rules | `(tactic| walk_at "m1") => `(tactic| first
  | walk_at "w1"
  | ((with_reducible refine' g_mode ?T ?M ?h); (case T => assumption); (case M => assumption))
  | ((with_reducible refine' g_first ?T ?M ?h); (case T => assumption); (case M => assumption))
  | ((with_reducible refine' g_stack ?T ?M ?h); (case T => assumption); (case M => assumption))
  | ((with_reducible refine' g_made ?T ?M ?h); (case T => assumption); (case M => assumption))
  | ((with_reducible refine' g_word ?T ?M ?h); (case T => assumption); (case M => assumption))
  | ((with_reducible refine' g_place ?T ?M ?h); (case T => assumption); (case M => assumption))
  | ((with_reducible refine' g_over ?T ?M ?h); (case T => assumption); (case M => assumption))
  | ((with_reducible refine' g_metric ?T ?M ?h); (case T => assumption); (case M => assumption))
  | ((with_reducible refine' g_matchers ?T ?M ?h); (case T => assumption); (case M => assumption))
  | ((with_reducible refine' g_label ?T ?M ?h); (case T => assumption); (case M => assumption))
  | ((with_reducible refine' g_inside ?T ?M ?h); (case T => assumption); (case M => assumption))
  | ((with_reducible refine' g_found ?T ?M ?h); (case T => assumption); (case M => assumption))
  | ((with_reducible refine' g_span ?T ?M ?h); (case T => assumption); (case M => assumption))
  | ((with_reducible refine' g_spans ?T ?M ?h); (case T => assumption); (case M => assumption))
  | ((with_reducible refine' g_selectors ?T ?M ?h); (case T => assumption); (case M => assumption))
  | ((with_reducible refine' g_operators ?T ?M ?h); (case T => assumption); (case M => assumption))
  | ((with_reducible refine' g_many ?T ?M ?h); (case T => assumption); (case M => assumption))
  | ((with_reducible refine' g_unkind ?T ?M ?h); (case T => assumption); (case M => assumption))
  | ((with_reducible refine' s_mode ?T ?M ?h); (case T => assumption); (case M => assumption); intro _ _)
  | ((with_reducible refine' s_first ?T ?M ?h); (case T => assumption); (case M => assumption); intro _ _)
  | ((with_reducible refine' s_made ?T ?M ?h); (case T => assumption); (case M => assumption); intro _ _)
  | ((with_reducible refine' s_word ?T ?M ?h); (case T => assumption); (case M => assumption); intro _ _)
  | ((with_reducible refine' s_place ?T ?M ?h); (case T => assumption); (case M => assumption); intro _ _)
  | ((with_reducible refine' s_over ?T ?M ?h); (case T => assumption); (case M => assumption); intro _ _)
  | ((with_reducible refine' s_metric ?T ?M ?h); (case T => assumption); (case M => assumption); intro _ _)
  | ((with_reducible refine' s_label ?T ?M ?h); (case T => assumption); (case M => assumption); intro _ _)
  | ((with_reducible refine' s_inside ?T ?M ?h); (case T => assumption); (case M => assumption); intro _ _)
  | ((with_reducible refine' s_span ?T ?M ?h); (case T => assumption); (case M => assumption); intro _ _)
  | ((with_reducible refine' s_selectors ?T ?M ?h); (case T => assumption); (case M => assumption); intro _ _)
  | ((with_reducible refine' s_operators ?T ?M ?h); (case T => assumption); (case M => assumption); intro _ _)
  | ((with_reducible refine' g_meth ?M ?l ?h); (case M => assumption); (case l => first | exact nol_turn _ | exact nol_finish_operand _ | exact nol_begin_selector _ | exact nol_finish_selector _ | exact nol_finish_over _ | exact nol_add_matcher _ | exact nol_judge _ | exact nol_combine _ | exact nol_close _ | exact nol_open_aggregate _ | exact nol_end_named _ | exact nol_has_open _ | exact nol_can_end _))
  | fail)
local macro_rules | `(tactic| walk_at "m") => `(tactic| (repeat' walk_at "m1"))

section
variable {P : Program} {w : World} {K : PySem.W.Frag} {mg : Str → Option Value} {base : Heap} {H0 Hb H : Hp} {p : Addr} {m : MF} {a b c d : List V}
/-! ### a machine being made -/
structure IN (K : PySem.W.Frag) (H0 H : Hp) (p dx : Addr) (n : Nat) (fs : List (Str × V)) (L : List Addr) : Prop where
  same : Same H0 H
  np : H0 p = none
  ob : H p = some (.ins (MC K) dx fs)
  sz : fs.length ≤ n
  ls : ∀ q ∈ L, H q = some (.lst []) ∧ H0 q = none
  nd : L.Nodup
theorem IN.new {dx : Addr} {n : Nat} {fs : List (Str × V)} {L : List Addr} (I : IN K H0 H p dx n fs L) {q : Addr} (hq : H q = none) : IN K H0 (upd H q (.lst [])) p dx n fs (q :: L) := by
  have s := same_new hq (.lst [])
  refine ⟨I.same.trans s, I.np, s _ _ I.ob, I.sz, fun r hr => ?_, List.nodup_cons.mpr ⟨fun hm => ?_, I.nd⟩⟩
  · rcases List.mem_cons.mp hr with rfl | hr
    · exact ⟨upd_same, I.same.free hq⟩
    · exact ⟨s _ _ (I.ls r hr).1, (I.ls r hr).2⟩
  · have := (I.ls q hm).1
    rw [hq] at this
    cases this
theorem IN.set {dx : Addr} {n : Nat} {fs fs' : List (Str × V)} {L : List Addr} (I : IN K H0 H p dx n fs L) (hz : fs'.length ≤ n + 1) : IN K H0 (upd H p (.ins (MC K) dx fs')) p dx (n + 1) fs' L := by
  refine ⟨same_keep I.same I.np, I.np, upd_same, hz, fun r hr => ⟨?_, (I.ls r hr).2⟩, I.nd⟩
  rw [upd_ne (ne_of (I.ls r hr).1 I.ob (by intro z; cases z))]
  exact (I.ls r hr).1
theorem s_in {dx : Addr} {n : Nat} {fs : List (Str × V)} {L : List Addr} {f : Str} {y : V} (I : IN K H0 H p dx n fs L) (cl : Cls K (MC K)) (na : NoAttr K (MC K) f) (hn : n < 1000) {R : Hp → Prop}
    (h : ∀ H', IN K H0 H' p dx (n + 1) (putF f y fs) L → R H') : ∃ q C dx fs, V.ref p = .ref q ∧ H q = some (.ins C dx fs) ∧ Cls K C ∧ NoAttr K C f ∧ fs.length < 1000 ∧ R (upd H q (.ins C dx (putF f y fs))) :=
  ⟨p, _, dx, fs, rfl, I.ob, cl, na, Nat.lt_of_le_of_lt I.sz hn, h _ (I.set (Nat.le_trans (length_putF f y fs) (Nat.succ_le_succ I.sz)))⟩
def spInit (K : PySem.W.Frag) : Sp := fun vs H Q _ => ∃ (H0 : Hp) (p dx : Addr), vs = [.ref p] ∧ IN K H0 H p dx 0 [] [] ∧ ∀ (H' : Hp) (m : MF), m.mode = ("operand" : Str) → m.sel = 0 → m.ops = 0 → MO K H0 H' p m [] [] [] [] → Q .non H'
theorem sc_M___init__ : FnScope (["self"] : List Str) (["self"] : List Str) (defScope s_M___init__) := ⟨rfl, rfl, rfl, by decide +kernel, rfl, by decide +kernel, by decide +kernel⟩
theorem k_init (T : Txt w K mg) : ∃ fd, FnOk P w K mg base CX0 1 (He.ma K (He.ga K "Machine") "__init__") fd ["self"] (spInit K) ∧ Binds K fd ["self"] [] := by
  obtain ⟨fd, F⟩ := T.d_M___init__
  refine ⟨fd, fn_ok F sc_M___init__ (fun vs H Q E h => ?_) (fun cdv A outer s H vs Q E hr h => ?_), F.bindsN (fun _ _ _ _ _ _ us hl => match us, hl with | [_], _ => rfl)⟩
  · obtain ⟨_, _, _, rfl, _⟩ := h
    rfl
  obtain ⟨H0, p, dx, rfl, I, q⟩ := h
  refine ⟨_, (pss_cons (ps_fld (pv 0) pe_str rfl)
    (pss_cons (ps_fld (pv 0) pe_bl rfl)
    (pss_cons (ps_fld (pv 0) (pe_lst pa_nil) rfl)
    (pss_cons (ps_fld (pv 0) pe_non rfl)
    (pss_cons (ps_fld (pv 0) pe_str rfl)
    (pss_cons (ps_fld (pv 0) pe_int rfl)
    (pss_cons (ps_fld (pv 0) pe_str rfl)
    (pss_cons (ps_fld (pv 0) pe_str rfl)
    (pss_cons (ps_fld (pv 0) (pe_lst pa_nil) rfl)
    (pss_cons (ps_fld (pv 0) pe_str rfl)
    (pss_cons (ps_fld (pv 0) pe_bl rfl)
    (pss_cons (ps_fld (pv 0) (pe_lst pa_nil) rfl)
    (pss_cons (ps_fld (pv 0) pe_int rfl)
    (pss_cons (ps_fld (pv 0) (pe_lst pa_nil) rfl)
    (pss_cons (ps_fld (pv 0) pe_int rfl)
    (pss_cons (ps_fld (pv 0) pe_int rfl)
    (pss_cons (ps_fld (pv 0) pe_bl rfl)
    (pss_one (ps_fld (pv 0) pe_non rfl))))))))))))))))))), ?_⟩
  walk_at "w0"
  walk_at "w"
  refine s_in I T.cl T.n_mode (by omega) fun H1 I1 => ?_
  walk_at "w"
  refine s_in I1 T.cl T.n_first (by omega) fun H2 I2 => ?_
  walk_at "w"
  refine ⟨Nat.zero_le _, fun q1 h1 => ?_⟩
  have I3 := I2.new h1
  walk_at "w"
  refine s_in I3 T.cl T.n_stack (by omega) fun H4 I4 => ?_
  walk_at "w"
  refine s_in I4 T.cl T.n_made (by omega) fun H5 I5 => ?_
  walk_at "w"
  refine s_in I5 T.cl T.n_word (by omega) fun H6 I6 => ?_
  walk_at "w"
  refine s_in I6 T.cl T.n_place (by omega) fun H7 I7 => ?_
  walk_at "w"
  refine s_in I7 T.cl T.n_over (by omega) fun H8 I8 => ?_
  walk_at "w"
  refine s_in I8 T.cl T.n_metric (by omega) fun H9 I9 => ?_
  walk_at "w"
  refine ⟨Nat.zero_le _, fun q2 h2 => ?_⟩
  have I10 := I9.new h2
  walk_at "w"
  refine s_in I10 T.cl T.n_matchers (by omega) fun H11 I11 => ?_
  walk_at "w"
  refine s_in I11 T.cl T.n_label (by omega) fun H12 I12 => ?_
  walk_at "w"
  refine s_in I12 T.cl T.n_inside (by omega) fun H13 I13 => ?_
  walk_at "w"
  refine ⟨Nat.zero_le _, fun q3 h3 => ?_⟩
  have I14 := I13.new h3
  walk_at "w"
  refine s_in I14 T.cl T.n_found (by omega) fun H15 I15 => ?_
  walk_at "w"
  refine s_in I15 T.cl T.n_span (by omega) fun H16 I16 => ?_
  walk_at "w"
  refine ⟨Nat.zero_le _, fun q4 h4 => ?_⟩
  have I17 := I16.new h4
  walk_at "w"
  refine s_in I17 T.cl T.n_spans (by omega) fun H18 I18 => ?_
  walk_at "w"
  refine s_in I18 T.cl T.n_selectors (by omega) fun H19 I19 => ?_
  walk_at "w"
  refine s_in I19 T.cl T.n_operators (by omega) fun H20 I20 => ?_
  walk_at "w"
  refine s_in I20 T.cl T.n_many (by omega) fun H21 I21 => ?_
  walk_at "w"
  refine s_in I21 T.cl T.n_unkind (by omega) fun H22 I22 => ?_
  walk_at "w"
  have e : H22 p = some (.ins (MC K) dx (MF.fs ⟨"operand", true, q1, .non, "", 0, "", "", q2, "", true, q3, 0, q4, 0, 0⟩)) := I22.ob.trans (by kernel_rfl)
  have n := I22.nd
  simp only [List.nodup_cons, List.mem_cons, not_or, List.not_mem_nil, not_false_eq_true, and_true] at n
  refine q H22 ⟨"operand", true, q1, .non, "", 0, "", "", q2, "", true, q3, 0, q4, 0, 0⟩ rfl rfl rfl ⟨I22.same, ⟨dx, e⟩, (I22.ls q1 (by simp)).1, (I22.ls q2 (by simp)).1, (I22.ls q3 (by simp)).1, (I22.ls q4 (by simp)).1, I22.np, (I22.ls q1 (by simp)).2, (I22.ls q2 (by simp)).2, (I22.ls q3 (by simp)).2, (I22.ls q4 (by simp)).2, ?_, ?_, ?_, ?_, ?_, ?_⟩
  · exact fun z => n.2.2.1 z.symm
  · exact fun z => n.2.1.2 z.symm
  · exact fun z => n.1.2.2 z.symm
  · exact fun z => n.2.1.1 z.symm
  · exact fun z => n.1.2.1 z.symm
  · exact fun z => n.1.1 z.symm
end
end Wf


set_option Elab.async false
set_option linter.all false
set_option maxRecDepth 100000
set_option maxHeartbeats 4000000
namespace Wf
open PySem PySem.Spec PyProof.Rows L2
open C8 (pe_gc)
local macro_rules | `(tactic| walk_at "w1") => `(tactic| first
  | with_reducible refine i_seq ?_
  | with_reducible refine i_asg ?_
  | with_reducible refine i_gname ?_
  | ((with_reducible refine' i_var ?ivar ?imain); (case ivar => exact rfl))
  | with_reducible refine i_c ?_
  | with_reducible refine i_op ?_
  | with_reducible refine i_if ?_
  | with_reducible refine i_test ?_
  | with_reducible refine i_tB ?_
  | with_reducible refine i_bl ?_
  | with_reducible refine i_ret ?_
  | with_reducible refine i_retN ?_
  | with_reducible refine i_drop ?_
  | with_reducible refine i_next ?_
  | with_reducible refine i_cons ?_
  | with_reducible refine i_nil ?_
  | with_reducible refine i_cb ?_
  | with_reducible refine i_tup ?_
  | with_reducible refine i_lst ?_
  | with_reducible refine i_fld ?_
  | with_reducible refine i_sfld ?_
  | with_reducible refine i_call ?_
  | with_reducible refine i_meth ?_
  | with_reducible refine i_and ?_
  | with_reducible refine i_or ?_
  | with_reducible refine i_not ?_
  | with_reducible refine i_andV ?_
  | with_reducible refine i_orV ?_
  | with_reducible refine i_notV ?_
  | with_reducible refine i_ifV ?_
  | with_reducible refine i_un ?_
  | with_reducible refine i_neg ?_
  | with_reducible refine i_gcons ?_
  | with_reducible refine i_sl ?_
  | with_reducible refine i_part ?_
  | with_reducible refine i_nopart ?_
  | with_reducible refine i_int ?_
  | with_reducible refine i_inS ?_
  | with_reducible refine i_notInS ?_
  | with_reducible refine i_tyS ?_
  | with_reducible refine i_forL ?_
  | with_reducible refine i_forT ?_
  | with_reducible refine i_forR1 ?_
  | with_reducible refine i_bm ?_
  | with_reducible refine i_bm0 ?_
  | with_reducible refine i_gnil ?_
  | with_reducible refine i_rI0 ?_
  | with_reducible refine i_rIsN ?_
  | with_reducible refine i_rNotN ?_
  | with_reducible refine i_rInt ?_
  | ((with_reducible refine i_rEq ?isc ?imain); (case isc => exact rfl))
  | ((with_reducible refine i_rNe ?isc ?imain); (case isc => exact rfl))
  | with_reducible refine i_T rfl ?_
  | with_reducible refine i_F rfl ?_
  | ((refine' i_T ?icnd ?imain); (case icnd => decide +kernel))
  | ((refine' i_F ?icnd ?imain); (case icnd => decide +kernel))
  | fail)
local macro_rules | `(tactic| walk_at "w") => `(tactic| (repeat' walk_at "w1"))
local macro_rules | `(tactic| walk_at "w0") => `(tactic| (simp only [cxOf, L2.start, List.map_cons, List.map_nil, List.length_cons, List.length_nil, Nat.reduceAdd, Nat.reduceSub, Nat.zero_add, List.replicate_zero, List.replicate_succ, List.cons_append, List.nil_append]))
local macro_rules | `(tactic| walk_at "tk") => `(tactic| (simp only [Tk.sign, Tk.val]))
local macro_rules | `(tactic| walk_at "c") => `(tactic| (dsimp only [List.set_cons_zero, List.set_cons_succ, List.cons_append, List.nil_append]))

local macro_rules | `(tactic| walk_at "m1") => `(tactic| first
  | walk_at "w1"
  | ((with_reducible refine' g_mode ?T ?M ?h); (case T => assumption); (case M => assumption))
  | ((with_reducible refine' g_first ?T ?M ?h); (case T => assumption); (case M => assumption))
  | ((with_reducible refine' g_stack ?T ?M ?h); (case T => assumption); (case M => assumption))
  | ((with_reducible refine' g_made ?T ?M ?h); (case T => assumption); (case M => assumption))
  | ((with_reducible refine' g_word ?T ?M ?h); (case T => assumption); (case M => assumption))
  | ((with_reducible refine' g_place ?T ?M ?h); (case T => assumption); (case M => assumption))
  | ((with_reducible refine' g_over ?T ?M ?h); (case T => assumption); (case M => assumption))
  | ((with_reducible refine' g_metric ?T ?M ?h); (case T => assumption); (case M => assumption))
  | ((with_reducible refine' g_matchers ?T ?M ?h); (case T => assumption); (case M => assumption))
  | ((with_reducible refine' g_label ?T ?M ?h); (case T => assumption); (case M => assumption))
  | ((with_reducible refine' g_inside ?T ?M ?h); (case T => assumption); (case M => assumption))
  | ((with_reducible refine' g_found ?T ?M ?h); (case T => assumption); (case M => assumption))
  | ((with_reducible refine' g_span ?T ?M ?h); (case T => assumption); (case M => assumption))
  | ((with_reducible refine' g_spans ?T ?M ?h); (case T => assumption); (case M => assumption))
  | ((with_reducible refine' g_selectors ?T ?M ?h); (case T => assumption); (case M => assumption))
  | ((with_reducible refine' g_operators ?T ?M ?h); (case T => assumption); (case M => assumption))
  | ((with_reducible refine' g_many ?T ?M ?h); (case T => assumption); (case M => assumption))
  | ((with_reducible refine' g_unkind ?T ?M ?h); (case T => assumption); (case M => assumption))
  | ((with_reducible refine' s_mode ?T ?M ?h); (case T => assumption); (case M => assumption); intro _ _)
  | ((with_reducible refine' s_first ?T ?M ?h); (case T => assumption); (case M => assumption); intro _ _)
  | ((with_reducible refine' s_made ?T ?M ?h); (case T => assumption); (case M => assumption); intro _ _)
  | ((with_reducible refine' s_word ?T ?M ?h); (case T => assumption); (case M => assumption); intro _ _)
  | ((with_reducible refine' s_place ?T ?M ?h); (case T => assumption); (case M => assumption); intro _ _)
  | ((with_reducible refine' s_over ?T ?M ?h); (case T => assumption); (case M => assumption); intro _ _)
  | ((with_reducible refine' s_metric ?T ?M ?h); (case T => assumption); (case M => assumption); intro _ _)
  | ((with_reducible refine' s_label ?T ?M ?h); (case T => assumption); (case M => assumption); intro _ _)
  | ((with_reducible refine' s_inside ?T ?M ?h); (case T => assumption); (case M => assumption); intro _ _)
  | ((with_reducible refine' s_span ?T ?M ?h); (case T => assumption); (case M => assumption); intro _ _)
  | ((with_reducible refine' s_selectors ?T ?M ?h); (case T => assumption); (case M => assumption); intro _ _)
  | ((with_reducible refine' s_operators ?T ?M ?h); (case T => assumption); (case M => assumption); intro _ _)
  | ((with_reducible refine' g_meth ?M ?l ?h); (case M => assumption); (case l => first | exact nol_turn _ | exact nol_finish_operand _ | exact nol_begin_selector _ | exact nol_finish_selector _ | exact nol_finish_over _ | exact nol_add_matcher _ | exact nol_judge _ | exact nol_combine _ | exact nol_close _ | exact nol_open_aggregate _ | exact nol_end_named _ | exact nol_has_open _ | exact nol_can_end _))
  | fail)
local macro_rules | `(tactic| walk_at "m") => `(tactic| (repeat' walk_at "m1"))

section
variable {P : Program} {w : World} {K : PySem.W.Frag} {mg : Str → Option Value} {base : Heap} {H0 Hb H H' : Hp} {p : Addr} {m : MF} {a b c d : List V}
theorem TokR.mono (t : TupLe K H H') {tk : Tk} {v : V} : TokR K H tk v → TokR K H' tk v := fun ⟨x, pl, h1, h2⟩ => ⟨x, pl, h1, t _ _ h2⟩
theorem ToksR.at_ : ∀ {ts : List Tk} {vs : List V} {i : Nat} {v : V}, ToksR K H ts vs → vs[i]? = some v → ∃ tk, ts.drop i = tk :: ts.drop (i + 1) ∧ TokR K H tk v
  | [], vs, i, v, h, e => by
    rw [show vs = [] from h] at e
    cases e
  | tk :: ts, vs, 0, v, ⟨x, r, h1, h2, h3⟩, e => by
    rw [h1] at e
    cases e
    exact ⟨tk, rfl, h2⟩
  | tk :: ts, vs, i + 1, v, ⟨x, r, h1, h2, h3⟩, e => by
    rw [h1] at e
    exact ToksR.at_ (i := i) h3 e
theorem ToksR.len : ∀ {ts : List Tk} {vs : List V}, ToksR K H ts vs → vs.length = ts.length
  | [], vs, h => by rw [show vs = [] from h]; rfl
  | _ :: ts, vs, ⟨x, r, h1, h2, h3⟩ => by rw [h1, List.length_cons, List.length_cons, ToksR.len h3]
theorem i_make {C : Addr} {sp : Sp} {E : XK} {σ : L2.St} {Q : VK} (h : ∀ x dx, H x = none → H dx = none → dx ≠ x → sp [.ref x] (upd (upd H dx (.own x)) x (.ins C dx [])) (fun v H2 => v = .non ∧ Q (.ref x) H2) E) : tMake C sp [] E tNil σ H Q := h
def co0 : Core := ⟨[], none, 0, 0, 0⟩
/-! machine_of -/
def spMach (K : PySem.W.Frag) : Sp := fun vs H Q _ => ∃ (l : Addr) (xs : List V) (ts : List Tk) (md : Md) (co : Core), vs = [.ref l] ∧ SqL K H l xs ∧ ToksR K H ts xs ∧ Runs .operand co0 ts md co ∧ ∀ H' p, H p = none → MA K H H' p md co → Q (.ref p) H'
theorem sc_machine_of : FnScope (["found", "machine", "token"] : List Str) (["found"] : List Str) (defScope s_machine_of) := ⟨rfl, rfl, rfl, by decide +kernel, rfl, by decide +kernel, by decide +kernel⟩
theorem k_machine_of (T : Txt w K mg) : Cal P w K mg base 8 "machine_of" (spMach K) := by
  obtain ⟨fdI, G_init, bG_init⟩ := k_init (P := P) (base := base) T
  have G_take := k_take (P := P) (base := base) T
  obtain ⟨fd, F⟩ := T.d_machine_of
  refine ⟨_, fd, ["found"], fn_ok F sc_machine_of (fun vs H Q E h => ?_) (fun cdv A outer s H vs Q E hr h => ?_), T.g_machine_of, F.kp, F.bindsN (fun _ _ _ _ _ _ us hl => match us, hl with | [_], _ => rfl)⟩
  · obtain ⟨_, _, _, _, _, rfl, _⟩ := h
    rfl
  obtain ⟨l, xs, ts, md, co, rfl, hl, hts, hrun, q⟩ := h
  have hrI : Room 2 _ := hr.mono (by decide)
  refine ⟨_, (pss_cons (ps_set (i := 1) sc_machine_of.nd rfl (by first | exact Or.inl rfl | exact Or.inr rfl) (pe_make0 T.mk_ G_init hrI rfl T.g_Machine bG_init .nil pass0))
    (pss_cons (ps_for PassesOwn.never rfl (pi_list (pv 0)) (pg_name (i := 2) sc_machine_of.nd rfl (by first | exact Or.inl rfl | exact Or.inr rfl)) (pss_one (ps_if (pt_not (pt_val (pe_c G_take hr (by omega) rfl (pa_cons (pv 1) (pa_cons (pv 2) pa_nil))))) (pss_one ps_never) pss_nil)))
    (pss_one (ps_ret (pv 1))))), ?_⟩
  walk_at "w0"
  walk_at "w"
  refine i_make fun x dx hx hdx hne => ?_
  have s0 : Same H (upd (upd H dx (.own x)) x (.ins (MC K) dx [])) := fun b o e => by rw [upd_ne (ne_of_none e hx), upd_ne (ne_of_none e hdx)]; exact e
  refine ⟨H, x, dx, rfl, ⟨s0, hx, upd_same, Nat.zero_le _, (fun q hq => by cases hq), List.nodup_nil⟩, fun H1 m hm1 hm2 hm3 M => ⟨rfl, ?_⟩⟩
  walk_at "w"
  refine i_listW (M.same.seq hl) (i_list (xs := xs) (fun i σ H2 => ∃ (x2 : Option V) (md1 : Md) (co1 : Core), σ = [some (.ref l), some (.ref x), x2] ∧ MA K H H2 x md1 co1 ∧ Runs md1 co1 (ts.drop i) md co)
    ⟨none, .operand, co0, rfl, ⟨m, [], [], [], [], M, hm1, trivial, ⟨rfl, (fun e he => by cases he), hm2, hm3, (fun v hv => by cases hv), rfl⟩⟩, hrun⟩ (fun i σ H2 _ ⟨_, _, _, _, ⟨_, _, _, _, _, M2, _⟩, _⟩ => M2.same.seq hl) ?_ ?_)
  · rintro i v σ H2 hv ⟨x2, md1, co1, rfl, A, hr2⟩
    obtain ⟨tk, ed, htk⟩ := hts.at_ hv
    rw [ed] at hr2
    cases hr2 with
    | cons hstep hr3 =>
      walk_at "w"
      have A' := A
      obtain ⟨_, _, _, _, _, M2, _⟩ := A'
      refine ⟨H, x, _, _, _, _, tk, v, rfl, A, htk.mono (Same.tup M2.same), hstep, fun H3 A3 => ?_⟩
      walk_at "w"
      exact ⟨_, _, _, rfl, A3, hr3⟩
  · rintro σ H2 ⟨x2, md1, co1, rfl, A, hr2⟩
    rw [hts.len, List.drop_length] at hr2
    cases hr2
    walk_at "w"
    exact q H2 x hx A
/-! check_depth -/
def Tk.isOpen : Tk → Bool
  | .sym s => decide (s = "(")
  | _ => false
def Tk.isClose : Tk → Bool
  | .sym s => decide (s = ")")
  | _ => false
def depthOk : Int → List Tk → Prop
  | _, [] => True
  | d, t :: ts => if t.isOpen = true then d ≠ 20 ∧ depthOk (d + 1) ts else if t.isClose = true then depthOk (d - 1) ts else depthOk d ts
def spDepth (K : PySem.W.Frag) : Sp := fun vs H Q _ => ∃ (l : Addr) (xs : List V) (ts : List Tk), vs = [.ref l] ∧ SqL K H l xs ∧ ToksR K H ts xs ∧ depthOk 0 ts ∧ Q .non H
theorem sc_check_depth : FnScope (["found", "depth", "kind", "value", "place"] : List Str) (["found"] : List Str) (defScope s_check_depth) := ⟨rfl, rfl, rfl, by decide +kernel, rfl, by decide +kernel, by decide +kernel⟩
theorem k_check_depth (T : Txt w K mg) : Cal P w K mg base 1 "check_depth" (spDepth K) := by
  obtain ⟨fd, F⟩ := T.d_check_depth
  refine ⟨_, fd, ["found"], fn_ok F sc_check_depth (fun vs H Q E h => ?_) (fun cdv A outer s H vs Q E hr h => ?_), T.g_check_depth, F.kp, F.bindsN (fun _ _ _ _ _ _ us hl => match us, hl with | [_], _ => rfl)⟩
  · obtain ⟨_, _, _, rfl, _⟩ := h
    rfl
  obtain ⟨l, xs, ts, rfl, hl, hts, hd, q⟩ := h
  refine ⟨_, (pss_cons (ps_set (i := 1) sc_check_depth.nd rfl (by first | exact Or.inl rfl | exact Or.inr rfl) pe_int)
    (pss_one (ps_for PassesOwn.never rfl (pi_list (pv 0)) (pg_tup (by rfl) (pgs_cons (pg_name (i := 2) sc_check_depth.nd rfl (by first | exact Or.inl rfl | exact Or.inr rfl)) (pgs_cons (pg_name (i := 3) sc_check_depth.nd rfl (by first | exact Or.inl rfl | exact Or.inr rfl)) (pgs_cons (pg_name (i := 4) sc_check_depth.nd rfl (by first | exact Or.inl rfl | exact Or.inr rfl)) pgs_nil)))) (pss_one (ps_if (PW.pt (pw_and (pt_cmpR op_eq (pv 2) pe_str (nomark _)) (pw_and1 (pt_cmpR op_eq (pv 3) pe_str (nomark _))))) (pss_cons (ps_if (pt_cmpR op_eq (pv 1) (pe_gc rfl T.c_MOST_OPEN) (nomark _)) (pss_one ps_never) pss_nil)
    (pss_one (ps_set (i := 1) sc_check_depth.nd rfl (by first | exact Or.inl rfl | exact Or.inr rfl) (pe_op op_add (pv 1) pe_int)))) (pss_one (ps_if (PW.pt (pw_and (pt_cmpR op_eq (pv 2) pe_str (nomark _)) (pw_and1 (pt_cmpR op_eq (pv 3) pe_str (nomark _))))) (pss_one (ps_set (i := 1) sc_check_depth.nd rfl (by first | exact Or.inl rfl | exact Or.inr rfl) (pe_op op_sub (pv 1) pe_int))) pss_nil))))))), ?_⟩
  walk_at "w0"
  walk_at "w"
  refine i_listW hl (i_list (xs := xs) (fun i σ H2 => ∃ (x2 x3 x4 : Option V) (dp : Int), σ = [some (.ref l), some (.int dp), x2, x3, x4] ∧ H2 = H ∧ depthOk dp (ts.drop i)) ⟨none, none, none, 0, rfl, rfl, hd⟩ (fun i σ H2 _ ⟨_, _, _, _, _, e, _⟩ => by rw [e]; exact hl) ?_ ?_)
  · rintro i v σ H2 hv ⟨x2, x3, x4, dp, rfl, rfl, hdp⟩
    obtain ⟨tk, ed, t, pl, rfl, ht⟩ := hts.at_ hv
    rw [ed] at hdp
    refine i_gtup ht rfl ?_
    walk_at "w"
    have other : ∀ {x y z : Option V}, tk.isOpen = false → tk.isClose = false → ∃ (x2 x3 x4 : Option V) (dq : Int), ([some (.ref l), some (.int dp), x, y, z] : L2.St) = [some (.ref l), some (.int dq), x2, x3, x4] ∧ H2 = H2 ∧ depthOk dq (ts.drop (i + 1)) := fun {x y z} h1 h2 => by
      refine ⟨x, y, z, dp, rfl, rfl, ?_⟩
      have h : (if tk.isOpen = true then dp ≠ 20 ∧ depthOk (dp + 1) (ts.drop (i + 1)) else if tk.isClose = true then depthOk (dp - 1) (ts.drop (i + 1)) else depthOk dp (ts.drop (i + 1))) := hdp
      rw [h1, h2] at h
      exact h
    cases tk with
    | word s =>
      refine i_F (by show decide (V.str "word" = V.str "symbol") = false; decide +kernel) ?_
      walk_at "w"
      exact other rfl rfl
    | num s =>
      refine i_F (by show decide (V.str "number" = V.str "symbol") = false; decide +kernel) ?_
      walk_at "w"
      exact other rfl rfl
    | str s =>
      refine i_F (by show decide (V.str "string" = V.str "symbol") = false; decide +kernel) ?_
      walk_at "w"
      exact other rfl rfl
    | sym s =>
      simp only [Tk.kind, Tk.val]
      walk_at "w"
      by_cases h1 : s = "("
      · refine i_T (by show decide (V.str s = V.str "(") = true; rw [h1]; decide +kernel) ?_
        walk_at "w"
        have h : dp ≠ 20 ∧ depthOk (dp + 1) (ts.drop (i + 1)) := by
          have h : (if (Tk.sym s).isOpen = true then dp ≠ 20 ∧ depthOk (dp + 1) (ts.drop (i + 1)) else if (Tk.sym s).isClose = true then depthOk (dp - 1) (ts.drop (i + 1)) else depthOk dp (ts.drop (i + 1))) := hdp
          rw [if_pos (show (Tk.sym s).isOpen = true from decide_eq_true h1)] at h
          exact h
        refine i_F (decide_eq_false (fun e => h.1 (V.int.inj e))) ?_
        walk_at "w"
        exact ⟨_, _, _, _, rfl, rfl, h.2⟩
      · refine i_F (by show decide (V.str s = V.str "(") = false; exact decide_eq_false (fun e => h1 (V.str.inj e))) ?_
        walk_at "w"
        by_cases h2 : s = ")"
        · refine i_T (by show decide (V.str s = V.str ")") = true; rw [h2]; decide +kernel) ?_
          walk_at "w"
          have h : depthOk (dp - 1) (ts.drop (i + 1)) := by
            have h : (if (Tk.sym s).isOpen = true then dp ≠ 20 ∧ depthOk (dp + 1) (ts.drop (i + 1)) else if (Tk.sym s).isClose = true then depthOk (dp - 1) (ts.drop (i + 1)) else depthOk dp (ts.drop (i + 1))) := hdp
            rw [if_neg (show ¬ (Tk.sym s).isOpen = true from fun e => h1 (of_decide_eq_true e)), if_pos (show (Tk.sym s).isClose = true from decide_eq_true h2)] at h
            exact h
          exact ⟨_, _, _, _, rfl, rfl, h⟩
        · refine i_F (by show decide (V.str s = V.str ")") = false; exact decide_eq_false (fun e => h2 (V.str.inj e))) ?_
          walk_at "w"
          exact other (decide_eq_false h1) (decide_eq_false h2)
  · rintro σ H2 ⟨x2, x3, x4, dp, rfl, rfl, hdp⟩
    walk_at "w"
    exact q
/-! check_limits -/
def spLim (K : PySem.W.Frag) : Sp := fun vs H Q _ => ∃ (H0 : Hp) (p : Addr) (m : MF) (a b c d : List V) (z : Int), vs = [.ref p, .int z] ∧ MO K H0 H p m a b c d ∧ m.sel ≤ 6 ∧ m.ops ≤ 8 ∧ SpanR K H d ∧ Q .non H
theorem sc_check_limits : FnScope (["machine", "size", "span", "place"] : List Str) (["machine", "size"] : List Str) (defScope s_check_limits) := ⟨rfl, rfl, rfl, by decide +kernel, rfl, by decide +kernel, by decide +kernel⟩
theorem k_check_limits (T : Txt w K mg) : Cal P w K mg base 1 "check_limits" (spLim K) := by
  obtain ⟨fd, F⟩ := T.d_check_limits
  refine ⟨_, fd, ["machine", "size"], fn_ok F sc_check_limits (fun vs H Q E h => ?_) (fun cdv A outer s H vs Q E hr h => ?_), T.g_check_limits, F.kp, F.bindsN (fun _ _ _ _ _ _ us hl => match us, hl with | [_, _], _ => rfl)⟩
  · obtain ⟨_, _, _, _, _, _, _, _, rfl, _⟩ := h
    rfl
  obtain ⟨H0, p, m, a, b, c, d, z, rfl, M, h1, h2, hsp, q⟩ := h
  refine ⟨_, (pss_cons (ps_if (PW.pt (pw_or (pt_val (pe_fld (pv 0) rfl)) (pw_or (pt_cmpR op_gt (pe_fld (pv 0) rfl) (pe_gc rfl T.c_MOST_SELECTORS) (nomark _)) (pw_or1 (pt_cmpR op_gt (pe_fld (pv 0) rfl) (pe_gc rfl T.c_MOST_OPERATORS) (nomark _)))))) (pss_one ps_never) pss_nil)
    (pss_cons (ps_for PassesOwn.never rfl (pi_list (pe_fld (pv 0) rfl)) (pg_tup (by rfl) (pgs_cons (pg_name (i := 2) sc_check_limits.nd rfl (by first | exact Or.inl rfl | exact Or.inr rfl)) (pgs_cons (pg_name (i := 3) sc_check_limits.nd rfl (by first | exact Or.inl rfl | exact Or.inr rfl)) pgs_nil))) (pss_one (ps_if (PW.pt (pw_or (pt_cmpR op_lt (pv 2) pe_int (nomark _)) (pw_or1 (pt_cmpR op_gt (pv 2) (pe_gc rfl T.c_LONGEST) (nomark _))))) (pss_one ps_never) pss_nil)))
    (pss_one (ps_if (pt_cmpR op_notN' (pe_fld (pv 0) rfl) pe_non (nomark _)) (pss_one ps_never) pss_nil)))), ?_⟩
  have M0 := MT.start M
  walk_at "w0"
  walk_at "m"
  refine i_F (decide_eq_false (by omega)) ?_
  walk_at "m"
  refine i_F (decide_eq_false (by omega)) ?_
  walk_at "m"
  refine i_listW (SqL.of M.sp) (i_list (xs := d) (fun i σ H2 => ∃ (x2 x3 : Option V), σ = [some (.ref p), some (.int z), x2, x3] ∧ H2 = H) ⟨none, none, rfl, rfl⟩ (fun i σ H2 _ ⟨_, _, _, e⟩ => by rw [e]; exact SqL.of M.sp) ?_ ?_)
  · rintro i v σ H2 hv ⟨x2, x3, rfl, rfl⟩
    obtain ⟨t, n, pl, rfl, ht, h3, h4⟩ := hsp v (List.mem_of_getElem? hv)
    refine i_gtup ht rfl ?_
    walk_at "w"
    refine i_F (decide_eq_false (by omega)) ?_
    walk_at "w"
    refine i_F (decide_eq_false (by omega)) ?_
    walk_at "w"
    exact ⟨_, _, rfl, rfl⟩
  · rintro σ H2 ⟨x2, x3, rfl, rfl⟩
    walk_at "m"
    exact q
end
end Wf


set_option Elab.async false
set_option linter.all false
set_option maxRecDepth 100000
set_option maxHeartbeats 4000000
namespace Wf
open PySem PySem.Spec PyProof.Rows L2
open C8 (pe_gc)
local macro_rules | `(tactic| walk_at "w1") => `(tactic| first
  | with_reducible refine i_seq ?_
  | with_reducible refine i_asg ?_
  | with_reducible refine i_gname ?_
  | ((with_reducible refine' i_var ?ivar ?imain); (case ivar => exact rfl))
  | with_reducible refine i_c ?_
  | with_reducible refine i_op ?_
  | with_reducible refine i_if ?_
  | with_reducible refine i_test ?_
  | with_reducible refine i_tB ?_
  | with_reducible refine i_bl ?_
  | with_reducible refine i_ret ?_
  | with_reducible refine i_retN ?_
  | with_reducible refine i_drop ?_
  | with_reducible refine i_next ?_
  | with_reducible refine i_cons ?_
  | with_reducible refine i_nil ?_
  | with_reducible refine i_cb ?_
  | with_reducible refine i_tup ?_
  | with_reducible refine i_lst ?_
  | with_reducible refine i_fld ?_
  | with_reducible refine i_sfld ?_
  | with_reducible refine i_call ?_
  | with_reducible refine i_meth ?_
  | with_reducible refine i_and ?_
  | with_reducible refine i_or ?_
  | with_reducible refine i_not ?_
  | with_reducible refine i_andV ?_
  | with_reducible refine i_orV ?_
  | with_reducible refine i_notV ?_
  | with_reducible refine i_ifV ?_
  | with_reducible refine i_un ?_
  | with_reducible refine i_neg ?_
  | with_reducible refine i_gcons ?_
  | with_reducible refine i_sl ?_
  | with_reducible refine i_part ?_
  | with_reducible refine i_nopart ?_
  | with_reducible refine i_int ?_
  | with_reducible refine i_inS ?_
  | with_reducible refine i_notInS ?_
  | with_reducible refine i_tyS ?_
  | with_reducible refine i_forL ?_
  | with_reducible refine i_forT ?_
  | with_reducible refine i_forR1 ?_
  | with_reducible refine i_bm ?_
  | with_reducible refine i_bm0 ?_
  | with_reducible refine i_gnil ?_
  | with_reducible refine i_rI0 ?_
  | with_reducible refine i_rIsN ?_
  | with_reducible refine i_rNotN ?_
  | with_reducible refine i_rInt ?_
  | ((with_reducible refine i_rEq ?isc ?imain); (case isc => exact rfl))
  | ((with_reducible refine i_rNe ?isc ?imain); (case isc => exact rfl))
  | with_reducible refine i_T rfl ?_
  | with_reducible refine i_F rfl ?_
  | ((refine' i_T ?icnd ?imain); (case icnd => decide +kernel))
  | ((refine' i_F ?icnd ?imain); (case icnd => decide +kernel))
  | fail)
local macro_rules | `(tactic| walk_at "w") => `(tactic| (repeat' walk_at "w1"))
local macro_rules | `(tactic| walk_at "w0") => `(tactic| (simp only [cxOf, L2.start, List.map_cons, List.map_nil, List.length_cons, List.length_nil, Nat.reduceAdd, Nat.reduceSub, Nat.zero_add, List.replicate_zero, List.replicate_succ, List.cons_append, List.nil_append]))
local macro_rules | `(tactic| walk_at "tk") => `(tactic| (simp only [Tk.sign, Tk.val]))
local macro_rules | `(tactic| walk_at "c") => `(tactic| (dsimp only [List.set_cons_zero, List.set_cons_succ, List.cons_append, List.nil_append]))

section
variable {P : Program} {w : World} {K : PySem.W.Frag} {mg : Str → Option Value} {base : Heap} {H0 Hb H H' : Hp}
/-! ### the text by its codes -/
abbrev tl (z : Str) : List Nat := z.cps.toList
theorem len_tl (z : Str) : z.length = (tl z).length := by simp [tl, Str.length]
theorem lettersT : (("abcdefghijklmnopqrstuvwxyz" : Str)).cps.toList = letters := TL.tl_ofString _
theorem wordT : (("abcdefghijklmnopqrstuvwxyz0123456789_" : Str)).cps.toList = wordCs := TL.tl_ofString _
theorem digitT : (("0123456789" : Str)).cps.toList = digitCs := TL.tl_ofString _
theorem symT : (("(){}[],=<>+-*" : Str)).cps.toList = symCs := TL.tl_ofString _
theorem blankT : ((" \n\t" : Str)).cps.toList = [32, 10, 9] := by decide +kernel
theorem mid_at {L x r : List Nat} {n k : Nat} (h : L.drop n = x ++ r) (hk : k < x.length) : L[n + k]? = x[k]? := by rw [← List.getElem?_drop, h, List.getElem?_append_left hk]
theorem mid_end {L x r : List Nat} {n : Nat} (h : L.drop n = x ++ r) : L[n + x.length]? = r.head? := by
  rw [← List.getElem?_drop, h, List.getElem?_append_right (Nat.le_refl _), Nat.sub_self]
  cases r <;> rfl
theorem mid_len {L x r : List Nat} {n : Nat} (h : L.drop n = x ++ r) (hn : n ≤ L.length) : L.length = n + x.length + r.length := by
  have e := congrArg List.length h
  rw [List.length_drop, List.length_append] at e
  omega
theorem mid_le {L x r : List Nat} {n : Nat} (h : L.drop n = x ++ r) (hx : x ≠ []) : n ≤ L.length := by
  by_cases hn : n ≤ L.length
  · exact hn
  · rw [List.drop_eq_nil_of_le (by omega)] at h
    exact absurd (List.append_eq_nil_iff.mp h.symm).1 hx
theorem mid_next {L x r : List Nat} {n : Nat} (h : L.drop n = x ++ r) : L.drop (n + x.length) = r := by
  rw [← List.drop_drop, h, List.drop_left]
theorem atI_of {α : Type} {l : List α} {k : Nat} {i : Int} {v : α} (e : i = (k : Int)) (h : l[k]? = some v) : atI l i = some v := by
  rw [e]
  exact atI_nat h
theorem cut_at {z : Str} {n m : Nat} {i j : Int} (ei : i = (n : Int)) (ej : j = ((n + m : Nat) : Int)) (hn : n ≤ (tl z).length) : cutS z (some i) (some j) = cs (((tl z).drop n).take m) := by
  subst ei ej
  show cs (((tl z).drop (HT.sIx z.length 0 (some (n : Int)))).take (HT.sIx z.length z.length (some ((n + m : Nat) : Int)) - HT.sIx z.length 0 (some (n : Int)))) = _
  rw [HT.sIx_nat, HT.sIx_nat, len_tl]
  have e1 : min n (tl z).length = n := by omega
  rw [e1]
  congr 1
  by_cases hm : n + m ≤ (tl z).length
  · rw [show min (n + m) (tl z).length - n = m by omega]
  · rw [show min (n + m) (tl z).length - n = (tl z).length - n by omega, List.take_of_length_le (by rw [List.length_drop]; omega), List.take_of_length_le (by rw [List.length_drop]; omega)]
theorem cut_mid {z : Str} {x r : List Nat} {n : Nat} {i j : Int} (h : (tl z).drop n = x ++ r) (ei : i = (n : Int)) (ej : j = ((n + x.length : Nat) : Int)) (hn : n ≤ (tl z).length) : cutS z (some i) (some j) = cs x := by
  rw [cut_at ei ej hn, h, List.take_left]
/-! ### read_word -/
def spRW (K : PySem.W.Frag) : Sp := fun vs H Q _ => ∃ (z : Str) (n : Nat) (x r : List Nat), vs = [.str z, .int n] ∧ z.length ≤ sizeLine ∧ (tl z).drop n = x ++ r ∧ x ≠ [] ∧ (∀ c ∈ x, c ∈ wordCs) ∧ x.length ≤ 20 ∧ (∀ c, r.head? = some c → c ∉ wordCs) ∧
  ∀ H' t, Same H H' → SqT K H' t [.str (cs x), .int ((n + x.length : Nat) : Int)] → Q (.ref t) H'
theorem sc_read_word : FnScope (["text", "at", "end"] : List Str) (["text", "at"] : List Str) (defScope s_read_word) := ⟨rfl, rfl, rfl, by decide +kernel, rfl, by decide +kernel, by decide +kernel⟩
theorem k_read_word (T : Txt w K mg) : Cal P w K mg base 1 "read_word" (spRW K) := by
  obtain ⟨fd, F⟩ := T.d_read_word
  refine ⟨_, fd, ["text", "at"], fn_ok F sc_read_word (fun vs H Q E h => ?_) (fun cdv A outer s H vs Q E hr h => ?_), T.g_read_word, F.kp, F.bindsN (fun _ _ _ _ _ _ us hl => match us, hl with | [_, _], _ => rfl)⟩
  · obtain ⟨_, _, _, _, rfl, _⟩ := h
    rfl
  obtain ⟨z, n, x, r, rfl, hz, hd, hne, hx, hl, hh, q⟩ := h
  refine ⟨_, (pss_cons (ps_set (i := 2) sc_read_word.nd rfl (by first | exact Or.inl rfl | exact Or.inr rfl) (pv 1))
    (pss_cons (ps_while PassesOwn.never (PW.pt (pw_and (pt_cmpR op_lt (pv 2) (pe_callB call_lenS rfl T.z_len PySem.boot_len (pa_cons (pv 0) pa_nil)) (nomark _)) (pw_and1 (pt_cmpR op_inS (pe_ix ix_str (pv 0) (pv 2) (fun _ _ => rfl)) (pe_gc rfl T.c_WORD_CHARS) rfl)))) (pss_cons (ps_if (pt_cmpR op_eq (pe_op op_sub (pv 2) (pv 1)) (pe_gc rfl T.c_MOST_WORD) (nomark _)) (pss_one ps_never) pss_nil)
    (pss_one (ps_set (i := 2) sc_read_word.nd rfl (by first | exact Or.inl rfl | exact Or.inr rfl) (pe_op op_add (pv 2) pe_int)))))
    (pss_one (ps_ret (pe_tup (pa_cons (pe_slice sl_str (pv 0) (po_some (pv 1)) (po_some (pv 2))) (pa_cons (pv 2) pa_nil))))))), ?_⟩
  have hn := mid_le hd hne
  have hlen := mid_len hd hn
  walk_at "w0"
  walk_at "w"
  refine ⟨fun μ σ H1 => ∃ k : Nat, μ = x.length - k ∧ k ≤ x.length ∧ σ = [some (.str z), some (.int n), some (.int ((n + k : Nat) : Int))] ∧ H1 = H, ⟨_, 0, rfl, Nat.zero_le _, rfl, rfl⟩, ?_⟩
  rintro μ σ H1 ⟨k, rfl, hk, rfl, rfl⟩
  walk_at "w"
  refine i_rLenS hz ?_
  walk_at "w"
  rw [len_tl] at hz
  by_cases hk2 : k < x.length
  · refine i_T (decide_eq_true (by rw [len_tl]; omega)) ?_
    walk_at "w"
    have hxk : (tl z)[n + k]? = some x[k] := by rw [mid_at hd hk2]; exact List.getElem?_eq_getElem hk2
    refine i_rIxS (by rw [len_tl]; exact hz) (atI_nat hxk) ?_
    walk_at "w"
    refine i_T (by rw [wordT]; exact decide_eq_true (hx _ (List.getElem_mem hk2))) ?_
    refine ⟨fun σ' H' => σ' = [some (.str z), some (.int n), some (.int ((n + (k + 1) : Nat) : Int))] ∧ H' = H1, fun σ' H' h => ⟨x.length - (k + 1), by omega, k + 1, rfl, hk2, h.1, h.2⟩, ?_⟩
    walk_at "w"
    refine i_F (decide_eq_false (fun e => by have := V.int.inj e; omega)) ?_
    walk_at "w"
    exact ⟨by rw [show ((n + (k + 1) : Nat) : Int) = ((n + k : Nat) : Int) + 1 by omega]; rfl, rfl⟩
  · have ek : k = x.length := by omega
    subst ek
    rcases r with _ | ⟨c, r'⟩
    · refine i_F (decide_eq_false (by rw [len_tl]; have : ([] : List Nat).length = 0 := rfl; omega)) ?_
      walk_at "w"
      refine i_slS (by rw [len_tl]; exact hz) ?_
      walk_at "w"
      refine ⟨le_line (by decide : 2 ≤ 100000), fun t ht => ?_⟩
      exact q _ t (same_new ht _) (by rw [cut_mid hd rfl rfl hn]; exact SqT.of upd_same)
    · refine i_T (decide_eq_true (by rw [len_tl]; have : (c :: r').length = r'.length + 1 := rfl; omega)) ?_
      walk_at "w"
      refine i_rIxS (by rw [len_tl]; exact hz) (atI_nat (mid_end hd)) ?_
      walk_at "w"
      refine i_F (by rw [wordT]; exact decide_eq_false (hh _ rfl)) ?_
      walk_at "w"
      refine i_slS (by rw [len_tl]; exact hz) ?_
      walk_at "w"
      refine ⟨le_line (by decide : 2 ≤ 100000), fun t ht => ?_⟩
      exact q _ t (same_new ht _) (by rw [cut_mid hd rfl rfl hn]; exact SqT.of upd_same)
/-! ### read_number -/
theorem dv_le : ∀ (l : List Nat) (a b : Nat), a ≤ b → (∀ k, (l.take k).foldl (fun acc c => acc * 10 + (c - 48)) a ≤ l.foldl (fun acc c => acc * 10 + (c - 48)) b)
  | [], a, b, h, k => by
    rw [List.take_nil]
    exact h
  | c :: l, a, b, h, 0 => by
    have h1 := dv_le l a (b * 10 + (c - 48)) (by omega) 0
    rw [List.take_zero] at h1 ⊢
    exact h1
  | c :: l, a, b, h, k + 1 => by
    rw [List.take_succ_cons]
    exact dv_le l (a * 10 + (c - 48)) (b * 10 + (c - 48)) (by omega) k
def dv (m k : Nat) : Nat := ((TL.numL m).take k).foldl (fun acc c => acc * 10 + (c - 48)) 0
theorem dv_all (m : Nat) : dv m (TL.numL m).length = m := by
  unfold dv
  rw [List.take_length]
  exact TL.numL_val m
theorem dv_m (m k : Nat) : dv m k ≤ m := by
  have h := dv_le (TL.numL m) 0 0 (Nat.le_refl _) k
  have e : (TL.numL m).foldl (fun acc c => acc * 10 + (c - 48)) 0 = m := TL.numL_val m
  rw [e] at h
  exact h
theorem dv_next {m k : Nat} (h : k < (TL.numL m).length) : dv m (k + 1) = dv m k * 10 + ((TL.numL m)[k] - 48) := by
  unfold dv
  rw [List.take_succ_eq_append_getElem h, List.foldl_append]
  rfl
theorem digit_ix {c : Nat} (h : c ∈ digitCs) : Txt.index0 "0123456789" ⟨#[c]⟩ = some (c - 48) := by
  have e : digitCs = [48, 49, 50, 51, 52, 53, 54, 55, 56, 57] := by decide +kernel
  rw [e] at h
  simp only [List.mem_cons, List.not_mem_nil, or_false] at h
  rcases h with rfl | rfl | rfl | rfl | rfl | rfl | rfl | rfl | rfl | rfl <;> decide +kernel
theorem numL_digit {m c : Nat} (h : c ∈ TL.numL m) : c ∈ digitCs ∧ 48 ≤ c ∧ c ≤ 57 := by
  obtain ⟨h1, h2⟩ := TL.numL_digits m c h
  refine ⟨?_, h1, h2⟩
  have e : digitCs = [48, 49, 50, 51, 52, 53, 54, 55, 56, 57] := by decide +kernel
  rw [e]
  simp only [List.mem_cons, List.not_mem_nil, or_false]
  omega
def spRN (K : PySem.W.Frag) : Sp := fun vs H Q _ => ∃ (z : Str) (n m : Nat) (r : List Nat), vs = [.str z, .int n] ∧ z.length ≤ sizeLine ∧ (tl z).drop n = TL.numL m ++ r ∧ m < 1000000000000000 ∧ (∀ c, r.head? = some c → c ∉ digitCs) ∧
  ∀ H' t, Same H H' → SqT K H' t [.int m, .int ((n + (TL.numL m).length : Nat) : Int)] → Q (.ref t) H'
theorem sc_read_number : FnScope (["text", "at", "n"] : List Str) (["text", "at"] : List Str) (defScope s_read_number) := ⟨rfl, rfl, rfl, by decide +kernel, rfl, by decide +kernel, by decide +kernel⟩
theorem k_read_number (T : Txt w K mg) : Cal P w K mg base 1 "read_number" (spRN K) := by
  obtain ⟨fd, F⟩ := T.d_read_number
  refine ⟨_, fd, ["text", "at"], fn_ok F sc_read_number (fun vs H Q E h => ?_) (fun cdv A outer s H vs Q E hr h => ?_), T.g_read_number, F.kp, F.bindsN (fun _ _ _ _ _ _ us hl => match us, hl with | [_, _], _ => rfl)⟩
  · obtain ⟨_, _, _, _, rfl, _⟩ := h
    rfl
  obtain ⟨z, n, m, r, rfl, hz, hd, hm, hh, q⟩ := h
  refine ⟨_, (pss_cons (ps_set (i := 2) sc_read_number.nd rfl (by first | exact Or.inl rfl | exact Or.inr rfl) pe_int)
    (pss_cons (ps_while PassesOwn.never (PW.pt (pw_and (pt_cmpR op_lt (pv 1) (pe_callB call_lenS rfl T.z_len PySem.boot_len (pa_cons (pv 0) pa_nil)) (nomark _)) (pw_and1 (pt_cmpR op_inS (pe_ix ix_str (pv 0) (pv 1) (fun _ _ => rfl)) (pe_gc rfl T.c_DIGITS) rfl)))) (pss_cons (ps_set (i := 2) sc_read_number.nd rfl (by first | exact Or.inl rfl | exact Or.inr rfl) (pe_op op_add (pe_op op_mul pe_int (pv 2)) (pe_bm PySem.F.plainAttrs_str PySem.F.slot_str_index PySem.F.type_str_index mt_indexF (pe_gc rfl T.c_DIGITS) (pa_cons (pe_ix ix_str (pv 0) (pv 1) (fun _ _ => rfl)) pa_nil))))
    (pss_cons (ps_if (pt_cmpR op_ge (pv 2) (pe_gc rfl T.c_NUMBER_BOUND) (nomark _)) (pss_one ps_never) pss_nil)
    (pss_one (ps_set (i := 1) sc_read_number.nd rfl (by first | exact Or.inl rfl | exact Or.inr rfl) (pe_op op_add (pv 1) pe_int))))))
    (pss_one (ps_ret (pe_tup (pa_cons (pv 2) (pa_cons (pv 1) pa_nil))))))), ?_⟩
  have hn := mid_le hd (TL.numL_ne m)
  have hlen := mid_len hd hn
  walk_at "w0"
  walk_at "w"
  refine ⟨fun μ σ H1 => ∃ k : Nat, μ = (TL.numL m).length - k ∧ k ≤ (TL.numL m).length ∧ σ = [some (.str z), some (.int ((n + k : Nat) : Int)), some (.int (dv m k : Nat))] ∧ H1 = H, ⟨_, 0, rfl, Nat.zero_le _, rfl, rfl⟩, ?_⟩
  rintro μ σ H1 ⟨k, rfl, hk, rfl, rfl⟩
  walk_at "w"
  refine i_rLenS hz ?_
  walk_at "w"
  rw [len_tl] at hz
  by_cases hk2 : k < (TL.numL m).length
  · have hd2 := numL_digit (List.getElem_mem hk2)
    refine i_T (decide_eq_true (by rw [len_tl]; omega)) ?_
    walk_at "w"
    have hxk : (tl z)[n + k]? = some (TL.numL m)[k] := by rw [mid_at hd hk2]; exact List.getElem?_eq_getElem hk2
    refine i_rIxS (by rw [len_tl]; exact hz) (atI_nat hxk) ?_
    walk_at "w"
    refine i_T (by rw [digitT]; exact decide_eq_true hd2.1) ?_
    refine ⟨fun σ' H' => σ' = [some (.str z), some (.int ((n + (k + 1) : Nat) : Int)), some (.int (dv m (k + 1) : Nat))] ∧ H' = H1, fun σ' H' h => ⟨(TL.numL m).length - (k + 1), by omega, k + 1, rfl, hk2, h.1, h.2⟩, ?_⟩
    walk_at "w"
    refine i_rI (.inl ⟨by omega, by omega⟩) ?_
    walk_at "w"
    refine i_rIxS (by rw [len_tl]; exact hz) (atI_nat hxk) ?_
    walk_at "w"
    refine i_idx (digit_ix hd2.1) ?_
    walk_at "w"
    have e1 := dv_next hk2
    have e2 := dv_m m (k + 1)
    have e3 : (10 : Int) * (dv m k : Nat) + (((TL.numL m)[k] - 48 : Nat) : Int) = (dv m (k + 1) : Nat) := by rw [e1]; omega
    refine i_F (decide_eq_false (by rw [e3]; omega)) ?_
    walk_at "w"
    refine ⟨?_, rfl⟩
    show [some (V.str z), some (.int (((n + k : Nat) : Int) + 1)), some (.int (10 * (dv m k : Nat) + (((TL.numL m)[k] - 48 : Nat) : Int)))] = _
    rw [e3, show ((n + (k + 1) : Nat) : Int) = ((n + k : Nat) : Int) + 1 by omega]
  · have ek : k = (TL.numL m).length := by omega
    subst ek
    rw [dv_all]
    rcases r with _ | ⟨c, r'⟩
    · refine i_F (decide_eq_false (by rw [len_tl]; have : ([] : List Nat).length = 0 := rfl; omega)) ?_
      walk_at "w"
      refine ⟨le_line (by decide : 2 ≤ 100000), fun t ht => ?_⟩
      exact q _ t (same_new ht _) (SqT.of upd_same)
    · refine i_T (decide_eq_true (by rw [len_tl]; have : (c :: r').length = r'.length + 1 := rfl; omega)) ?_
      walk_at "w"
      refine i_rIxS (by rw [len_tl]; exact hz) (atI_nat (mid_end hd)) ?_
      walk_at "w"
      refine i_F (by rw [digitT]; exact decide_eq_false (hh _ rfl)) ?_
      walk_at "w"
      refine ⟨le_line (by decide : 2 ≤ 100000), fun t ht => ?_⟩
      exact q _ t (same_new ht _) (SqT.of upd_same)
end
end Wf


set_option Elab.async false
set_option linter.all false
set_option maxRecDepth 100000
set_option maxHeartbeats 4000000
namespace Wf
open PySem PySem.Spec PyProof.Rows L2
open C8 (pe_gc)
local macro_rules | `(tactic| walk_at "w1") => `(tactic| first
  | with_reducible refine i_seq ?_
  | with_reducible refine i_asg ?_
  | with_reducible refine i_gname ?_
  | ((with_reducible refine' i_var ?ivar ?imain); (case ivar => exact rfl))
  | with_reducible refine i_c ?_
  | with_reducible refine i_op ?_
  | with_reducible refine i_if ?_
  | with_reducible refine i_test ?_
  | with_reducible refine i_tB ?_
  | with_reducible refine i_bl ?_
  | with_reducible refine i_ret ?_
  | with_reducible refine i_retN ?_
  | with_reducible refine i_drop ?_
  | with_reducible refine i_next ?_
  | with_reducible refine i_cons ?_
  | with_reducible refine i_nil ?_
  | with_reducible refine i_cb ?_
  | with_reducible refine i_tup ?_
  | with_reducible refine i_lst ?_
  | with_reducible refine i_fld ?_
  | with_reducible refine i_sfld ?_
  | with_reducible refine i_call ?_
  | with_reducible refine i_meth ?_
  | with_reducible refine i_and ?_
  | with_reducible refine i_or ?_
  | with_reducible refine i_not ?_
  | with_reducible refine i_andV ?_
  | with_reducible refine i_orV ?_
  | with_reducible refine i_notV ?_
  | with_reducible refine i_ifV ?_
  | with_reducible refine i_un ?_
  | with_reducible refine i_neg ?_
  | with_reducible refine i_gcons ?_
  | with_reducible refine i_sl ?_
  | with_reducible refine i_part ?_
  | with_reducible refine i_nopart ?_
  | with_reducible refine i_int ?_
  | with_reducible refine i_inS ?_
  | with_reducible refine i_notInS ?_
  | with_reducible refine i_tyS ?_
  | with_reducible refine i_forL ?_
  | with_reducible refine i_forT ?_
  | with_reducible refine i_forR1 ?_
  | with_reducible refine i_bm ?_
  | with_reducible refine i_bm0 ?_
  | with_reducible refine i_gnil ?_
  | with_reducible refine i_rI0 ?_
  | with_reducible refine i_rIsN ?_
  | with_reducible refine i_rNotN ?_
  | with_reducible refine i_rInt ?_
  | ((with_reducible refine i_rEq ?isc ?imain); (case isc => exact rfl))
  | ((with_reducible refine i_rNe ?isc ?imain); (case isc => exact rfl))
  | with_reducible refine i_T rfl ?_
  | with_reducible refine i_F rfl ?_
  | ((refine' i_T ?icnd ?imain); (case icnd => decide +kernel))
  | ((refine' i_F ?icnd ?imain); (case icnd => decide +kernel))
  | fail)
local macro_rules | `(tactic| walk_at "w") => `(tactic| (repeat' walk_at "w1"))
local macro_rules | `(tactic| walk_at "w0") => `(tactic| (simp only [cxOf, L2.start, List.map_cons, List.map_nil, List.length_cons, List.length_nil, Nat.reduceAdd, Nat.reduceSub, Nat.zero_add, List.replicate_zero, List.replicate_succ, List.cons_append, List.nil_append]))
local macro_rules | `(tactic| walk_at "tk") => `(tactic| (simp only [Tk.sign, Tk.val]))
local macro_rules | `(tactic| walk_at "c") => `(tactic| (dsimp only [List.set_cons_zero, List.set_cons_succ, List.cons_append, List.nil_append]))

section
variable {P : Program} {w : World} {K : PySem.W.Frag} {mg : Str → Option Value} {base : Heap} {H0 Hb H H' : Hp}
theorem word_not_q {c : Nat} (h : c ∈ wordCs) : c ≠ 34 := by
  intro e
  subst e
  exact absurd h (by decide +kernel)
theorem one_ne {c e : Nat} (h : c ≠ e) : V.str ⟨#[c]⟩ ≠ V.str ⟨#[e]⟩ := fun z => h (by
  have z1 := congrArg (fun s : Str => s.cps.toList) (V.str.inj z)
  simpa using z1)
theorem quoteS : ("\"" : Str) = ⟨#[34]⟩ := by decide +kernel
theorem bangS : ("!" : Str) = ⟨#[33]⟩ := by decide +kernel
/-! ### read_string -/
def spRS (K : PySem.W.Frag) : Sp := fun vs H Q _ => ∃ (z : Str) (n : Nat) (x r : List Nat), vs = [.str z, .int n] ∧ z.length ≤ sizeLine ∧ (tl z).drop n = (34 :: (x ++ [34])) ++ r ∧ (∀ c ∈ x, c ∈ wordCs) ∧ x.length ≤ 20 ∧
  ∀ H' t, Same H H' → SqT K H' t [.str (cs x), .int ((n + (x.length + 2) : Nat) : Int)] → Q (.ref t) H'
theorem sc_read_string : FnScope (["text", "at", "end"] : List Str) (["text", "at"] : List Str) (defScope s_read_string) := ⟨rfl, rfl, rfl, by decide +kernel, rfl, by decide +kernel, by decide +kernel⟩
theorem k_read_string (T : Txt w K mg) : Cal P w K mg base 1 "read_string" (spRS K) := by
  obtain ⟨fd, F⟩ := T.d_read_string
  refine ⟨_, fd, ["text", "at"], fn_ok F sc_read_string (fun vs H Q E h => ?_) (fun cdv A outer s H vs Q E hr h => ?_), T.g_read_string, F.kp, F.bindsN (fun _ _ _ _ _ _ us hl => match us, hl with | [_, _], _ => rfl)⟩
  · obtain ⟨_, _, _, _, rfl, _⟩ := h
    rfl
  obtain ⟨z, n, x, r, rfl, hz, hd0, hx, hl, q⟩ := h
  refine ⟨_, (pss_cons (ps_set (i := 2) sc_read_string.nd rfl (by first | exact Or.inl rfl | exact Or.inr rfl) (pe_op op_add (pv 1) pe_int))
    (pss_cons (ps_while PassesOwn.never (PW.pt (pw_and (pt_cmpR op_lt (pv 2) (pe_callB call_lenS rfl T.z_len PySem.boot_len (pa_cons (pv 0) pa_nil)) (nomark _)) (pw_and1 (pt_cmpR op_ne (pe_ix ix_str (pv 0) (pv 2) (fun _ _ => rfl)) pe_str (nomark _))))) (pss_cons (ps_if (pt_cmpR op_notInS (pe_ix ix_str (pv 0) (pv 2) (fun _ _ => rfl)) (pe_gc rfl T.c_WORD_CHARS) rfl) (pss_one ps_never) pss_nil)
    (pss_cons (ps_if (pt_cmpR op_gt (pe_op op_sub (pv 2) (pv 1)) (pe_gc rfl T.c_MOST_WORD) (nomark _)) (pss_one ps_never) pss_nil)
    (pss_one (ps_set (i := 2) sc_read_string.nd rfl (by first | exact Or.inl rfl | exact Or.inr rfl) (pe_op op_add (pv 2) pe_int))))))
    (pss_cons (ps_if (pt_cmpR op_eq (pv 2) (pe_callB call_lenS rfl T.z_len PySem.boot_len (pa_cons (pv 0) pa_nil)) (nomark _)) (pss_one ps_never) pss_nil)
    (pss_one (ps_ret (pe_tup (pa_cons (pe_slice sl_str (pv 0) (po_some (pe_op op_add (pv 1) pe_int)) (po_some (pv 2))) (pa_cons (pe_op op_add (pv 2) pe_int) pa_nil)))))))), ?_⟩
  have hn0 := mid_le hd0 (by simp)
  have hlen0 := mid_len hd0 hn0
  have hd : (tl z).drop (n + 1) = x ++ (34 :: r) := by
    have e : (tl z).drop n = [34] ++ (x ++ (34 :: r)) := by rw [hd0]; simp
    exact mid_next e
  have hlen : (tl z).length = n + 1 + x.length + (r.length + 1) := by
    rw [hlen0]
    simp only [List.length_cons, List.length_append, List.length_nil]
    omega
  walk_at "w0"
  walk_at "w"
  refine ⟨fun μ σ H1 => ∃ k : Nat, μ = x.length - k ∧ k ≤ x.length ∧ σ = [some (.str z), some (.int n), some (.int ((n + 1 + k : Nat) : Int))] ∧ H1 = H, ⟨_, 0, rfl, Nat.zero_le _, rfl, rfl⟩, ?_⟩
  rintro μ σ H1 ⟨k, rfl, hk, rfl, rfl⟩
  walk_at "w"
  refine i_rLenS hz ?_
  walk_at "w"
  rw [len_tl] at hz
  by_cases hk2 : k < x.length
  · refine i_T (decide_eq_true (by rw [len_tl]; omega)) ?_
    walk_at "w"
    have hxk : (tl z)[n + 1 + k]? = some x[k] := by rw [mid_at hd hk2]; exact List.getElem?_eq_getElem hk2
    have hw := hx _ (List.getElem_mem hk2)
    refine i_rIxS (by rw [len_tl]; exact hz) (atI_nat hxk) ?_
    walk_at "w"
    refine i_T (by rw [quoteS, decide_eq_false (one_ne (word_not_q hw))]; rfl) ?_
    refine ⟨fun σ' H' => σ' = [some (.str z), some (.int n), some (.int ((n + 1 + (k + 1) : Nat) : Int))] ∧ H' = H1, fun σ' H' h => ⟨x.length - (k + 1), by omega, k + 1, rfl, hk2, h.1, h.2⟩, ?_⟩
    walk_at "w"
    refine i_rIxS (by rw [len_tl]; exact hz) (atI_nat hxk) ?_
    walk_at "w"
    refine i_F (by rw [wordT, decide_eq_true hw]; rfl) ?_
    walk_at "w"
    refine i_F (decide_eq_false (by omega)) ?_
    walk_at "w"
    exact ⟨by rw [show ((n + 1 + (k + 1) : Nat) : Int) = ((n + 1 + k : Nat) : Int) + 1 by omega]; rfl, rfl⟩
  · have ek : k = x.length := by omega
    subst ek
    refine i_T (decide_eq_true (by rw [len_tl]; omega)) ?_
    walk_at "w"
    refine i_rIxS (by rw [len_tl]; exact hz) (atI_nat (mid_end hd)) ?_
    walk_at "w"
    refine i_rLenS (by rw [len_tl]; exact hz) ?_
    walk_at "w"
    refine i_F (decide_eq_false (fun e => by have := V.int.inj e; rw [len_tl] at this; omega)) ?_
    walk_at "w"
    refine i_slS (by rw [len_tl]; exact hz) ?_
    walk_at "w"
    refine ⟨le_line (by decide : 2 ≤ 100000), fun t ht => ?_⟩
    refine q _ t (same_new ht _) ?_
    have e1 : cutS z (some ((n : Int) + 1)) (some ((n + 1 + x.length : Nat) : Int)) = cs x := cut_mid hd (by omega) rfl (by omega)
    rw [e1, show ((n + (x.length + 2) : Nat) : Int) = ((n + 1 + x.length : Nat) : Int) + 1 by omega]
    exact SqT.of upd_same
/-! ### read_symbol -/
theorem S_in (x : List Nat) : inV (.str (cs x)) [.str "!=", .str "==", .str "<=", .str ">="] = decide (x ∈ pairCs) := by
  have e1 : ("!=" : Str) = cs [33, 61] := by decide +kernel
  have e2 : ("==" : Str) = cs [61, 61] := by decide +kernel
  have e3 : ("<=" : Str) = cs [60, 61] := by decide +kernel
  have e4 : (">=" : Str) = cs [62, 61] := by decide +kernel
  have inj : ∀ a b : List Nat, cs a = cs b → a = b := fun a b h => by
    have := congrArg (fun s : Str => s.cps.toList) h
    simpa [cs] using this
  rw [e1, e2, e3, e4, Bool.eq_iff_iff, decide_eq_true_eq]
  unfold inV pairCs
  simp only [List.any_cons, List.any_nil, Bool.or_false, Bool.or_eq_true, eqV, List.mem_cons, List.not_mem_nil, or_false, decide_eq_true_eq, beq_iff_eq]
  constructor
  · rintro (h | h | h | h)
    · exact .inl (inj _ _ h).symm
    · exact .inr (.inl (inj _ _ h).symm)
    · exact .inr (.inr (.inl (inj _ _ h).symm))
    · exact .inr (.inr (.inr (inj _ _ h).symm))
  · rintro (h | h | h | h) <;> subst h <;> simp
def spRY (K : PySem.W.Frag) : Sp := fun vs H Q _ => ∃ (z : Str) (n : Nat) (x r : List Nat), vs = [.str z, .int n] ∧ z.length ≤ sizeLine ∧ (tl z).drop n = x ++ r ∧ (x ∈ pairCs ∨ ∃ c, x = [c] ∧ c ∈ symCs ∧ ∀ y, r.head? = some y → [c, y] ∉ pairCs) ∧
  ∀ H' t, Same H H' → SqT K H' t [.str (cs x), .int ((n + x.length : Nat) : Int)] → Q (.ref t) H'
theorem sc_read_symbol : FnScope (["text", "at"] : List Str) (["text", "at"] : List Str) (defScope s_read_symbol) := ⟨rfl, rfl, rfl, by decide +kernel, rfl, by decide +kernel, by decide +kernel⟩
theorem k_read_symbol (T : Txt w K mg) : Cal P w K mg base 1 "read_symbol" (spRY K) := by
  obtain ⟨fd, F⟩ := T.d_read_symbol
  refine ⟨_, fd, ["text", "at"], fn_ok F sc_read_symbol (fun vs H Q E h => ?_) (fun cdv A outer s H vs Q E hr h => ?_), T.g_read_symbol, F.kp, F.bindsN (fun _ _ _ _ _ _ us hl => match us, hl with | [_, _], _ => rfl)⟩
  · obtain ⟨_, _, _, _, rfl, _⟩ := h
    rfl
  obtain ⟨z, n, x, r, rfl, hz, hd, hx, q⟩ := h
  refine ⟨_, (pss_cons (ps_if (pt_cmpR op_in_seq (pe_slice sl_str (pv 0) (po_some (pv 1)) (po_some (pe_op op_add (pv 1) pe_int))) (pe_globR rfl T.g_PAIRS) rfl) (pss_one (ps_ret (pe_tup (pa_cons (pe_slice sl_str (pv 0) (po_some (pv 1)) (po_some (pe_op op_add (pv 1) pe_int))) (pa_cons (pe_op op_add (pv 1) pe_int) pa_nil))))) pss_nil)
    (pss_cons (ps_if (pt_cmpR op_eq (pe_ix ix_str (pv 0) (pv 1) (fun _ _ => rfl)) pe_str (nomark _)) (pss_cons (ps_if (pt_cmpR op_eq (pe_op op_add (pv 1) pe_int) (pe_callB call_lenS rfl T.z_len PySem.boot_len (pa_cons (pv 0) pa_nil)) (nomark _)) (pss_one ps_never) pss_nil)
    (pss_one ps_never)) pss_nil)
    (pss_cons (ps_if (pt_cmpR op_notInS (pe_ix ix_str (pv 0) (pv 1) (fun _ _ => rfl)) (pe_gc rfl T.c_SYMBOLS) rfl) (pss_one ps_never) pss_nil)
    (pss_one (ps_ret (pe_tup (pa_cons (pe_ix ix_str (pv 0) (pv 1) (fun _ _ => rfl)) (pa_cons (pe_op op_add (pv 1) pe_int) pa_nil)))))))), ?_⟩
  have hne : x ≠ [] := by
    rcases hx with h | ⟨c, rfl, _⟩
    · intro e
      subst e
      exact absurd h (by decide +kernel)
    · simp
  have hn := mid_le hd hne
  have hlen := mid_len hd hn
  have ec : cutS z (some (n : Int)) (some ((n : Int) + 2)) = cs ((x ++ r).take 2) := by
    rw [cut_at (n := n) (m := 2) rfl (by omega) hn, hd]
  walk_at "w0"
  walk_at "w"
  refine i_slS hz ?_
  walk_at "w"
  refine i_rIn (.inr (T.t_PAIRS _)) rfl rfl ?_
  walk_at "w"
  rcases hx with hp | ⟨c, rfl, hc, hr2⟩
  · have hl2 : x.length = 2 := by
      unfold pairCs at hp
      simp only [List.mem_cons, List.not_mem_nil, or_false] at hp
      rcases hp with rfl | rfl | rfl | rfl <;> rfl
    have ex : (x ++ r).take 2 = x := by rw [← hl2, List.take_left]
    rw [ex] at ec
    refine i_T ?_ ?_
    · show (if false = true then _ else inV (V.str (cutS z (some (n : Int)) (some ((n : Int) + 2)))) _) = true
      rw [ec, if_neg Bool.false_ne_true, S_in, decide_eq_true hp]
    walk_at "w"
    refine i_slS hz ?_
    walk_at "w"
    refine ⟨le_line (by decide : 2 ≤ 100000), fun t ht => ?_⟩
    refine q _ t (same_new ht _) ?_
    rw [ec, show ((n + x.length : Nat) : Int) = (n : Int) + 2 by omega]
    exact SqT.of upd_same
  · have hxk : (tl z)[n]? = some c := mid_at (k := 0) hd (by simp)
    refine i_F ?_ ?_
    · show (if false = true then _ else inV (V.str (cutS z (some (n : Int)) (some ((n : Int) + 2)))) _) = false
      rw [ec, if_neg Bool.false_ne_true, S_in]
      refine decide_eq_false ?_
      rcases r with _ | ⟨y, r'⟩
      · intro h
        have h' : [c] ∈ pairCs := h
        unfold pairCs at h'
        simp at h'
      · exact hr2 y rfl
    walk_at "w"
    refine i_rIxS hz (atI_nat hxk) ?_
    walk_at "w"
    refine i_F (by
      rw [bangS]
      refine decide_eq_false (one_ne ?_)
      intro e
      subst e
      exact absurd hc (by decide +kernel)) ?_
    walk_at "w"
    refine i_rIxS hz (atI_nat hxk) ?_
    walk_at "w"
    refine i_F (by rw [symT, decide_eq_true hc]; rfl) ?_
    walk_at "w"
    refine i_rIxS hz (atI_nat hxk) ?_
    walk_at "w"
    refine ⟨le_line (by decide : 2 ≤ 100000), fun t ht => ?_⟩
    refine q _ t (same_new ht _) ?_
    exact SqT.of upd_same
end
end Wf


set_option Elab.async false
set_option linter.all false
set_option maxRecDepth 100000
set_option maxHeartbeats 4000000
namespace Wf
open PySem PySem.Spec PyProof.Rows L2
open C8 (pe_gc)
local macro_rules | `(tactic| walk_at "w1") => `(tactic| first
  | with_reducible refine i_seq ?_
  | with_reducible refine i_asg ?_
  | with_reducible refine i_gname ?_
  | ((with_reducible refine' i_var ?ivar ?imain); (case ivar => exact rfl))
  | with_reducible refine i_c ?_
  | with_reducible refine i_op ?_
  | with_reducible refine i_if ?_
  | with_reducible refine i_test ?_
  | with_reducible refine i_tB ?_
  | with_reducible refine i_bl ?_
  | with_reducible refine i_ret ?_
  | with_reducible refine i_retN ?_
  | with_reducible refine i_drop ?_
  | with_reducible refine i_next ?_
  | with_reducible refine i_cons ?_
  | with_reducible refine i_nil ?_
  | with_reducible refine i_cb ?_
  | with_reducible refine i_tup ?_
  | with_reducible refine i_lst ?_
  | with_reducible refine i_fld ?_
  | with_reducible refine i_sfld ?_
  | with_reducible refine i_call ?_
  | with_reducible refine i_meth ?_
  | with_reducible refine i_and ?_
  | with_reducible refine i_or ?_
  | with_reducible refine i_not ?_
  | with_reducible refine i_andV ?_
  | with_reducible refine i_orV ?_
  | with_reducible refine i_notV ?_
  | with_reducible refine i_ifV ?_
  | with_reducible refine i_un ?_
  | with_reducible refine i_neg ?_
  | with_reducible refine i_gcons ?_
  | with_reducible refine i_sl ?_
  | with_reducible refine i_part ?_
  | with_reducible refine i_nopart ?_
  | with_reducible refine i_int ?_
  | with_reducible refine i_inS ?_
  | with_reducible refine i_notInS ?_
  | with_reducible refine i_tyS ?_
  | with_reducible refine i_forL ?_
  | with_reducible refine i_forT ?_
  | with_reducible refine i_forR1 ?_
  | with_reducible refine i_bm ?_
  | with_reducible refine i_bm0 ?_
  | with_reducible refine i_gnil ?_
  | with_reducible refine i_rI0 ?_
  | with_reducible refine i_rIsN ?_
  | with_reducible refine i_rNotN ?_
  | with_reducible refine i_rInt ?_
  | ((with_reducible refine i_rEq ?isc ?imain); (case isc => exact rfl))
  | ((with_reducible refine i_rNe ?isc ?imain); (case isc => exact rfl))
  | with_reducible refine i_T rfl ?_
  | with_reducible refine i_F rfl ?_
  | ((refine' i_T ?icnd ?imain); (case icnd => decide +kernel))
  | ((refine' i_F ?icnd ?imain); (case icnd => decide +kernel))
  | fail)
local macro_rules | `(tactic| walk_at "w") => `(tactic| (repeat' walk_at "w1"))
local macro_rules | `(tactic| walk_at "w0") => `(tactic| (simp only [cxOf, L2.start, List.map_cons, List.map_nil, List.length_cons, List.length_nil, Nat.reduceAdd, Nat.reduceSub, Nat.zero_add, List.replicate_zero, List.replicate_succ, List.cons_append, List.nil_append]))
local macro_rules | `(tactic| walk_at "tk") => `(tactic| (simp only [Tk.sign, Tk.val]))
local macro_rules | `(tactic| walk_at "c") => `(tactic| (dsimp only [List.set_cons_zero, List.set_cons_succ, List.cons_append, List.nil_append]))

section
variable {P : Program} {w : World} {K : PySem.W.Frag} {mg : Str → Option Value} {base : Heap} {H0 Hb H H' : Hp}
/-! ### take_token -/
theorem let_word : ∀ c ∈ letters, c ∈ wordCs := by decide +kernel
theorem dig_let : ∀ c ∈ digitCs, c ∉ letters := by decide +kernel
theorem sym_not : ∀ c ∈ symCs, c ∉ letters ∧ c ∉ digitCs ∧ c ≠ 34 ∧ c ∉ [32, 10, 9] := by decide +kernel
theorem pair_not : ∀ p ∈ pairCs, ∃ c y, p = [c, y] ∧ c ∉ letters ∧ c ∉ digitCs ∧ c ≠ 34 ∧ c ∉ [32, 10, 9] := by
  intro p hp
  unfold pairCs at hp
  simp only [List.mem_cons, List.not_mem_nil, or_false] at hp
  rcases hp with rfl | rfl | rfl | rfl <;> exact ⟨_, _, rfl, by decide +kernel⟩
theorem let_blank : ∀ c ∈ letters, c ∉ [32, 10, 9] := by decide +kernel
theorem dig_blank : ∀ c ∈ digitCs, c ∉ [32, 10, 9] := by decide +kernel
theorem numL_head (m : Nat) : ∃ c x, TL.numL m = c :: x ∧ c ∈ digitCs := by
  cases e : TL.numL m with
  | nil => exact absurd e (TL.numL_ne m)
  | cons c x => exact ⟨c, x, rfl, (numL_digit (m := m) (by rw [e]; exact List.mem_cons_self)).1⟩
theorem lex1_head {x r : List Nat} {tk : Tk} (h : Lex1 x r tk) : ∃ c y, x = c :: y ∧ c ∉ [32, 10, 9] := by
  cases h with
  | word hc hw hl hr => exact ⟨_, _, rfl, let_blank _ hc⟩
  | @num m _ hn hr =>
    obtain ⟨c, y, e, hc⟩ := numL_head m
    exact ⟨c, y, e, dig_blank _ hc⟩
  | str hw hl => exact ⟨_, _, rfl, by decide⟩
  | pair hp =>
    obtain ⟨c, y, e, h⟩ := pair_not _ hp
    exact ⟨c, [y], e, h.2.2.2⟩
  | sym hc hr => exact ⟨_, _, rfl, (sym_not _ hc).2.2.2⟩
def spTT (K : PySem.W.Frag) : Sp := fun vs H Q _ => ∃ (z : Str) (n : Nat) (x r : List Nat) (tk : Tk), vs = [.str z, .int n] ∧ z.length ≤ sizeLine ∧ (tl z).drop n = x ++ r ∧ Lex1 x r tk ∧
  ∀ H' t u, Same H H' → SqT K H' u [.str tk.kind, tk.val, .int n] → SqT K H' t [.ref u, .int ((n + x.length : Nat) : Int)] → Q (.ref t) H'
theorem sc_take_token : FnScope (["text", "at", "kind", "value", "end"] : List Str) (["text", "at"] : List Str) (defScope s_take_token) := ⟨rfl, rfl, rfl, by decide +kernel, rfl, by decide +kernel, by decide +kernel⟩
theorem k_take_token (T : Txt w K mg) : Cal P w K mg base 2 "take_token" (spTT K) := by
  have G_read_word := k_read_word (P := P) (base := base) T
  have G_read_number := k_read_number (P := P) (base := base) T
  have G_read_string := k_read_string (P := P) (base := base) T
  have G_read_symbol := k_read_symbol (P := P) (base := base) T
  obtain ⟨fd, F⟩ := T.d_take_token
  refine ⟨_, fd, ["text", "at"], fn_ok F sc_take_token (fun vs H Q E h => ?_) (fun cdv A outer s H vs Q E hr h => ?_), T.g_take_token, F.kp, F.bindsN (fun _ _ _ _ _ _ us hl => match us, hl with | [_, _], _ => rfl)⟩
  · obtain ⟨_, _, _, _, _, rfl, _⟩ := h
    rfl
  obtain ⟨z, n, x, r, tk, rfl, hz, hd, hlex, q⟩ := h
  refine ⟨_, (pss_cons (ps_if (pt_cmpR op_inS (pe_ix ix_str (pv 0) (pv 1) (fun _ _ => rfl)) (pe_gc rfl T.c_LETTERS) rfl) (pss_cons (ps_set (i := 2) sc_take_token.nd rfl (by first | exact Or.inl rfl | exact Or.inr rfl) pe_str)
    (pss_one (ps_asg (pe_c G_read_word hr (by omega) rfl (pa_cons (pv 0) (pa_cons (pv 1) pa_nil))) (pg_tup (by rfl) (pgs_cons (pg_name (i := 3) sc_take_token.nd rfl (by first | exact Or.inl rfl | exact Or.inr rfl)) (pgs_cons (pg_name (i := 4) sc_take_token.nd rfl (by first | exact Or.inl rfl | exact Or.inr rfl)) pgs_nil)))))) (pss_one (ps_if (pt_cmpR op_inS (pe_ix ix_str (pv 0) (pv 1) (fun _ _ => rfl)) (pe_gc rfl T.c_DIGITS) rfl) (pss_cons (ps_set (i := 2) sc_take_token.nd rfl (by first | exact Or.inl rfl | exact Or.inr rfl) pe_str)
    (pss_one (ps_asg (pe_c G_read_number hr (by omega) rfl (pa_cons (pv 0) (pa_cons (pv 1) pa_nil))) (pg_tup (by rfl) (pgs_cons (pg_name (i := 3) sc_take_token.nd rfl (by first | exact Or.inl rfl | exact Or.inr rfl)) (pgs_cons (pg_name (i := 4) sc_take_token.nd rfl (by first | exact Or.inl rfl | exact Or.inr rfl)) pgs_nil)))))) (pss_one (ps_if (pt_cmpR op_eq (pe_ix ix_str (pv 0) (pv 1) (fun _ _ => rfl)) pe_str (nomark _)) (pss_cons (ps_set (i := 2) sc_take_token.nd rfl (by first | exact Or.inl rfl | exact Or.inr rfl) pe_str)
    (pss_one (ps_asg (pe_c G_read_string hr (by omega) rfl (pa_cons (pv 0) (pa_cons (pv 1) pa_nil))) (pg_tup (by rfl) (pgs_cons (pg_name (i := 3) sc_take_token.nd rfl (by first | exact Or.inl rfl | exact Or.inr rfl)) (pgs_cons (pg_name (i := 4) sc_take_token.nd rfl (by first | exact Or.inl rfl | exact Or.inr rfl)) pgs_nil)))))) (pss_cons (ps_set (i := 2) sc_take_token.nd rfl (by first | exact Or.inl rfl | exact Or.inr rfl) pe_str)
    (pss_one (ps_asg (pe_c G_read_symbol hr (by omega) rfl (pa_cons (pv 0) (pa_cons (pv 1) pa_nil))) (pg_tup (by rfl) (pgs_cons (pg_name (i := 3) sc_take_token.nd rfl (by first | exact Or.inl rfl | exact Or.inr rfl)) (pgs_cons (pg_name (i := 4) sc_take_token.nd rfl (by first | exact Or.inl rfl | exact Or.inr rfl)) pgs_nil)))))))))))
    (pss_one (ps_ret (pe_tup (pa_cons (pe_tup (pa_cons (pv 2) (pa_cons (pv 3) (pa_cons (pv 1) pa_nil)))) (pa_cons (pv 4) pa_nil)))))), ?_⟩
  walk_at "w0"
  walk_at "w"
  cases hlex with
  | @word c y _ hc hw hl hr2 =>
    have hxk : (tl z)[n]? = some c := mid_at (k := 0) hd (by simp)
    refine i_rIxS hz (atI_nat hxk) ?_
    walk_at "w"
    refine i_T (by rw [lettersT]; exact decide_eq_true hc) ?_
    walk_at "w"
    refine ⟨z, n, c :: y, r, rfl, hz, hd, by simp, ?_, by simp; omega, hr2, fun H1 t s1 ht => ?_⟩
    · intro e he
      rcases List.mem_cons.mp he with rfl | he
      · exact let_word _ hc
      · exact hw _ he
    walk_at "w"
    refine i_gtup ht rfl ?_
    walk_at "w"
    refine ⟨le_line (by decide : 3 ≤ 100000), fun u hu => ?_⟩
    have s2 := same_new hu (.tup [.str (Tk.kind (.word (cs (c :: y)))), Tk.val (.word (cs (c :: y))), .int n])
    walk_at "w"
    refine ⟨le_line (by decide : 2 ≤ 100000), fun t2 ht2 => ?_⟩
    have s3 := same_new ht2 (.tup [.ref u, .int ((n + (c :: y).length : Nat) : Int)])
    exact q _ t2 u ((s1.trans s2).trans s3) (Same.sqT s3 (SqT.of upd_same)) (SqT.of upd_same)
  | @num m _ hm hr2 =>
    obtain ⟨c, y, ey, hc⟩ := numL_head m
    have hxk : (tl z)[n]? = some c := by
      rw [ey] at hd
      exact mid_at (k := 0) hd (by simp)
    refine i_rIxS hz (atI_nat hxk) ?_
    walk_at "w"
    refine i_F (by rw [lettersT]; exact decide_eq_false (dig_let _ hc)) ?_
    walk_at "w"
    refine i_rIxS hz (atI_nat hxk) ?_
    walk_at "w"
    refine i_T (by rw [digitT]; exact decide_eq_true hc) ?_
    walk_at "w"
    refine ⟨z, n, m, r, rfl, hz, hd, hm, hr2, fun H1 t s1 ht => ?_⟩
    walk_at "w"
    refine i_gtup ht rfl ?_
    walk_at "w"
    refine ⟨le_line (by decide : 3 ≤ 100000), fun u hu => ?_⟩
    have s2 := same_new hu (.tup [.str (Tk.kind (.num m)), Tk.val (.num m), .int n])
    walk_at "w"
    refine ⟨le_line (by decide : 2 ≤ 100000), fun t2 ht2 => ?_⟩
    have s3 := same_new ht2 (.tup [.ref u, .int ((n + (TL.numL m).length : Nat) : Int)])
    exact q _ t2 u ((s1.trans s2).trans s3) (Same.sqT s3 (SqT.of upd_same)) (SqT.of upd_same)
  | @str y _ hw hl =>
    have hxk : (tl z)[n]? = some 34 := mid_at (k := 0) hd (by simp)
    refine i_rIxS hz (atI_nat hxk) ?_
    walk_at "w"
    refine i_rIxS hz (atI_nat hxk) ?_
    walk_at "w"
    refine i_rIxS hz (atI_nat hxk) ?_
    walk_at "w"
    refine ⟨z, n, y, r, rfl, hz, hd, hw, hl, fun H1 t s1 ht => ?_⟩
    walk_at "w"
    refine i_gtup ht rfl ?_
    have el : (34 :: (y ++ [34])).length = y.length + 2 := by simp
    rw [el] at q
    walk_at "w"
    refine ⟨le_line (by decide : 3 ≤ 100000), fun u hu => ?_⟩
    have s2 := same_new hu (.tup [.str (Tk.kind (.str (cs y))), Tk.val (.str (cs y)), .int n])
    walk_at "w"
    refine ⟨le_line (by decide : 2 ≤ 100000), fun t2 ht2 => ?_⟩
    have s3 := same_new ht2 (.tup [.ref u, .int ((n + (y.length + 2) : Nat) : Int)])
    exact q _ t2 u ((s1.trans s2).trans s3) (Same.sqT s3 (SqT.of upd_same)) (SqT.of upd_same)
  | @pair _ _ hp =>
    obtain ⟨c, y, ey, h1, h2, h3, h4⟩ := pair_not _ hp
    have hxk : (tl z)[n]? = some c := by
      rw [ey] at hd
      exact mid_at (k := 0) hd (by simp)
    refine i_rIxS hz (atI_nat hxk) ?_
    walk_at "w"
    refine i_F (by rw [lettersT]; exact decide_eq_false h1) ?_
    walk_at "w"
    refine i_rIxS hz (atI_nat hxk) ?_
    walk_at "w"
    refine i_F (by rw [digitT]; exact decide_eq_false h2) ?_
    walk_at "w"
    refine i_rIxS hz (atI_nat hxk) ?_
    walk_at "w"
    refine i_F (by rw [quoteS]; exact decide_eq_false (one_ne h3)) ?_
    walk_at "w"
    refine ⟨z, n, x, r, rfl, hz, hd, .inl hp, fun H1 t s1 ht => ?_⟩
    walk_at "w"
    refine i_gtup ht rfl ?_
    walk_at "w"
    refine ⟨le_line (by decide : 3 ≤ 100000), fun u hu => ?_⟩
    have s2 := same_new hu (.tup [.str (Tk.kind (.sym (cs x))), Tk.val (.sym (cs x)), .int n])
    walk_at "w"
    refine ⟨le_line (by decide : 2 ≤ 100000), fun t2 ht2 => ?_⟩
    have s3 := same_new ht2 (.tup [.ref u, .int ((n + x.length : Nat) : Int)])
    exact q _ t2 u ((s1.trans s2).trans s3) (Same.sqT s3 (SqT.of upd_same)) (SqT.of upd_same)
  | @sym c _ hc hr2 =>
    obtain ⟨h1, h2, h3, h4⟩ := sym_not _ hc
    have hxk : (tl z)[n]? = some c := mid_at (k := 0) hd (by simp)
    refine i_rIxS hz (atI_nat hxk) ?_
    walk_at "w"
    refine i_F (by rw [lettersT]; exact decide_eq_false h1) ?_
    walk_at "w"
    refine i_rIxS hz (atI_nat hxk) ?_
    walk_at "w"
    refine i_F (by rw [digitT]; exact decide_eq_false h2) ?_
    walk_at "w"
    refine i_rIxS hz (atI_nat hxk) ?_
    walk_at "w"
    refine i_F (by rw [quoteS]; exact decide_eq_false (one_ne h3)) ?_
    walk_at "w"
    refine ⟨z, n, [c], r, rfl, hz, hd, .inr ⟨c, rfl, hc, hr2⟩, fun H1 t s1 ht => ?_⟩
    walk_at "w"
    refine i_gtup ht rfl ?_
    walk_at "w"
    refine ⟨le_line (by decide : 3 ≤ 100000), fun u hu => ?_⟩
    have s2 := same_new hu (.tup [.str (Tk.kind (.sym (cs [c]))), Tk.val (.sym (cs [c])), .int n])
    walk_at "w"
    refine ⟨le_line (by decide : 2 ≤ 100000), fun t2 ht2 => ?_⟩
    have s3 := same_new ht2 (.tup [.ref u, .int ((n + [c].length : Nat) : Int)])
    exact q _ t2 u ((s1.trans s2).trans s3) (Same.sqT s3 (SqT.of upd_same)) (SqT.of upd_same)
end
end Wf


set_option Elab.async false
set_option linter.all false
set_option maxRecDepth 100000
set_option maxHeartbeats 4000000
namespace Wf
open PySem PySem.Spec PyProof.Rows L2
open C8 (pe_gc)
local macro_rules | `(tactic| walk_at "w1") => `(tactic| first
  | with_reducible refine i_seq ?_
  | with_reducible refine i_asg ?_
  | with_reducible refine i_gname ?_
  | ((with_reducible refine' i_var ?ivar ?imain); (case ivar => exact rfl))
  | with_reducible refine i_c ?_
  | with_reducible refine i_op ?_
  | with_reducible refine i_if ?_
  | with_reducible refine i_test ?_
  | with_reducible refine i_tB ?_
  | with_reducible refine i_bl ?_
  | with_reducible refine i_ret ?_
  | with_reducible refine i_retN ?_
  | with_reducible refine i_drop ?_
  | with_reducible refine i_next ?_
  | with_reducible refine i_cons ?_
  | with_reducible refine i_nil ?_
  | with_reducible refine i_cb ?_
  | with_reducible refine i_tup ?_
  | with_reducible refine i_lst ?_
  | with_reducible refine i_fld ?_
  | with_reducible refine i_sfld ?_
  | with_reducible refine i_call ?_
  | with_reducible refine i_meth ?_
  | with_reducible refine i_and ?_
  | with_reducible refine i_or ?_
  | with_reducible refine i_not ?_
  | with_reducible refine i_andV ?_
  | with_reducible refine i_orV ?_
  | with_reducible refine i_notV ?_
  | with_reducible refine i_ifV ?_
  | with_reducible refine i_un ?_
  | with_reducible refine i_neg ?_
  | with_reducible refine i_gcons ?_
  | with_reducible refine i_sl ?_
  | with_reducible refine i_part ?_
  | with_reducible refine i_nopart ?_
  | with_reducible refine i_int ?_
  | with_reducible refine i_inS ?_
  | with_reducible refine i_notInS ?_
  | with_reducible refine i_tyS ?_
  | with_reducible refine i_forL ?_
  | with_reducible refine i_forT ?_
  | with_reducible refine i_forR1 ?_
  | with_reducible refine i_bm ?_
  | with_reducible refine i_bm0 ?_
  | with_reducible refine i_gnil ?_
  | with_reducible refine i_rI0 ?_
  | with_reducible refine i_rIsN ?_
  | with_reducible refine i_rNotN ?_
  | with_reducible refine i_rInt ?_
  | ((with_reducible refine i_rEq ?isc ?imain); (case isc => exact rfl))
  | ((with_reducible refine i_rNe ?isc ?imain); (case isc => exact rfl))
  | with_reducible refine i_T rfl ?_
  | with_reducible refine i_F rfl ?_
  | ((refine' i_T ?icnd ?imain); (case icnd => decide +kernel))
  | ((refine' i_F ?icnd ?imain); (case icnd => decide +kernel))
  | fail)
local macro_rules | `(tactic| walk_at "w") => `(tactic| (repeat' walk_at "w1"))
local macro_rules | `(tactic| walk_at "w0") => `(tactic| (simp only [cxOf, L2.start, List.map_cons, List.map_nil, List.length_cons, List.length_nil, Nat.reduceAdd, Nat.reduceSub, Nat.zero_add, List.replicate_zero, List.replicate_succ, List.cons_append, List.nil_append]))
local macro_rules | `(tactic| walk_at "tk") => `(tactic| (simp only [Tk.sign, Tk.val]))
local macro_rules | `(tactic| walk_at "c") => `(tactic| (dsimp only [List.set_cons_zero, List.set_cons_succ, List.cons_append, List.nil_append]))

local macro_rules | `(tactic| walk_at "m1") => `(tactic| first
  | walk_at "w1"
  | ((with_reducible refine' g_mode ?T ?M ?h); (case T => assumption); (case M => assumption))
  | ((with_reducible refine' g_first ?T ?M ?h); (case T => assumption); (case M => assumption))
  | ((with_reducible refine' g_stack ?T ?M ?h); (case T => assumption); (case M => assumption))
  | ((with_reducible refine' g_made ?T ?M ?h); (case T => assumption); (case M => assumption))
  | ((with_reducible refine' g_word ?T ?M ?h); (case T => assumption); (case M => assumption))
  | ((with_reducible refine' g_place ?T ?M ?h); (case T => assumption); (case M => assumption))
  | ((with_reducible refine' g_over ?T ?M ?h); (case T => assumption); (case M => assumption))
  | ((with_reducible refine' g_metric ?T ?M ?h); (case T => assumption); (case M => assumption))
  | ((with_reducible refine' g_matchers ?T ?M ?h); (case T => assumption); (case M => assumption))
  | ((with_reducible refine' g_label ?T ?M ?h); (case T => assumption); (case M => assumption))
  | ((with_reducible refine' g_inside ?T ?M ?h); (case T => assumption); (case M => assumption))
  | ((with_reducible refine' g_found ?T ?M ?h); (case T => assumption); (case M => assumption))
  | ((with_reducible refine' g_span ?T ?M ?h); (case T => assumption); (case M => assumption))
  | ((with_reducible refine' g_spans ?T ?M ?h); (case T => assumption); (case M => assumption))
  | ((with_reducible refine' g_selectors ?T ?M ?h); (case T => assumption); (case M => assumption))
  | ((with_reducible refine' g_operators ?T ?M ?h); (case T => assumption); (case M => assumption))
  | ((with_reducible refine' g_many ?T ?M ?h); (case T => assumption); (case M => assumption))
  | ((with_reducible refine' g_unkind ?T ?M ?h); (case T => assumption); (case M => assumption))
  | ((with_reducible refine' s_mode ?T ?M ?h); (case T => assumption); (case M => assumption); intro _ _)
  | ((with_reducible refine' s_first ?T ?M ?h); (case T => assumption); (case M => assumption); intro _ _)
  | ((with_reducible refine' s_made ?T ?M ?h); (case T => assumption); (case M => assumption); intro _ _)
  | ((with_reducible refine' s_word ?T ?M ?h); (case T => assumption); (case M => assumption); intro _ _)
  | ((with_reducible refine' s_place ?T ?M ?h); (case T => assumption); (case M => assumption); intro _ _)
  | ((with_reducible refine' s_over ?T ?M ?h); (case T => assumption); (case M => assumption); intro _ _)
  | ((with_reducible refine' s_metric ?T ?M ?h); (case T => assumption); (case M => assumption); intro _ _)
  | ((with_reducible refine' s_label ?T ?M ?h); (case T => assumption); (case M => assumption); intro _ _)
  | ((with_reducible refine' s_inside ?T ?M ?h); (case T => assumption); (case M => assumption); intro _ _)
  | ((with_reducible refine' s_span ?T ?M ?h); (case T => assumption); (case M => assumption); intro _ _)
  | ((with_reducible refine' s_selectors ?T ?M ?h); (case T => assumption); (case M => assumption); intro _ _)
  | ((with_reducible refine' s_operators ?T ?M ?h); (case T => assumption); (case M => assumption); intro _ _)
  | ((with_reducible refine' g_meth ?M ?l ?h); (case M => assumption); (case l => first | exact nol_turn _ | exact nol_finish_operand _ | exact nol_begin_selector _ | exact nol_finish_selector _ | exact nol_finish_over _ | exact nol_add_matcher _ | exact nol_judge _ | exact nol_combine _ | exact nol_close _ | exact nol_open_aggregate _ | exact nol_end_named _ | exact nol_has_open _ | exact nol_can_end _))
  | fail)
local macro_rules | `(tactic| walk_at "m") => `(tactic| (repeat' walk_at "m1"))

section
variable {P : Program} {w : World} {K : PySem.W.Frag} {mg : Str → Option Value} {base : Heap} {H0 Hb H H' : Hp}
theorem ToksR.mono (t : TupLe K H H') : ∀ {ts : List Tk} {vs : List V}, ToksR K H ts vs → ToksR K H' ts vs
  | [], _, h => h
  | _ :: _, _, ⟨v, r, h1, h2, h3⟩ => ⟨v, r, h1, h2.mono t, ToksR.mono t h3⟩
theorem ToksR.snoc {tk : Tk} {v : V} (h : TokR K H tk v) : ∀ {ts : List Tk} {vs : List V}, ToksR K H ts vs → ToksR K H (ts ++ [tk]) (vs ++ [v])
  | [], vs, h1 => by
    rw [show vs = [] from h1]
    exact ⟨v, [], rfl, h, rfl⟩
  | _ :: _, _, ⟨x, r, h1, h2, h3⟩ => by
    rw [h1]
    exact ⟨x, r ++ [v], rfl, h2, ToksR.snoc h h3⟩
/-! ### scan -/
def spScan (K : PySem.W.Frag) : Sp := fun vs H Q _ => ∃ (z : Str) (ts : List Tk), vs = [.str z] ∧ z.length ≤ 300 ∧ Lex (tl z) ts ∧
  ∀ H' t l vs, Same H H' → H' l = some (.lst vs) → ToksR K H' ts vs → SqT K H' t [.ref l, .non] → Q (.ref t) H'
def WScan (K : PySem.W.Frag) (H : Hp) (z : Str) (ts : List Tk) (l : Addr) (μ : Nat) (σ : L2.St) (H1 : Hp) : Prop :=
  ∃ (n : Nat) (x3 : Option V) (vs : List V) (done rest : List Tk), μ = (tl z).length - n ∧ n ≤ (tl z).length ∧ σ = [some (.str z), some (.ref l), some (.int n), x3, none] ∧ Same H H1 ∧ H1 l = some (.lst vs) ∧ vs.length ≤ n ∧ ToksR K H1 done vs ∧ Lex ((tl z).drop n) rest ∧ done ++ rest = ts
theorem drop_at {L : List Nat} {n c : Nat} {r : List Nat} (h : L.drop n = c :: r) : L[n]? = some c ∧ L.drop (n + 1) = r ∧ n < L.length := by
  have h1 := mid_at (k := 0) (x := [c]) (r := r) h (by simp)
  have h2 := mid_next (x := [c]) (r := r) h
  exact ⟨h1, h2, (List.getElem?_eq_some_iff.mp h1).1⟩
theorem sc_scan : FnScope (["text", "found", "at", "token", "error"] : List Str) (["text"] : List Str) (defScope s_scan) := ⟨rfl, rfl, rfl, by decide +kernel, rfl, by decide +kernel, by decide +kernel⟩
theorem k_scan (T : Txt w K mg) : Cal P w K mg base 3 "scan" (spScan K) := by
  have G_take_token := k_take_token (P := P) (base := base) T
  obtain ⟨fd, F⟩ := T.d_scan
  refine ⟨_, fd, ["text"], fn_ok F sc_scan (fun vs H Q E h => ?_) (fun cdv A outer s H vs Q E hr h => ?_), T.g_scan, F.kp, F.bindsN (fun _ _ _ _ _ _ us hl => match us, hl with | [_], _ => rfl)⟩
  · obtain ⟨_, _, rfl, _⟩ := h
    rfl
  obtain ⟨z, ts, rfl, hz, hlex, q⟩ := h
  have hz2 : z.length ≤ sizeLine := le_line (by omega)
  refine ⟨_, (pss_cons (ps_if (pt_cmpR op_gt (pe_callB call_lenS rfl T.z_len PySem.boot_len (pa_cons (pv 0) pa_nil)) (pe_gc rfl T.c_MOST_CHARS) (nomark _)) (pss_one (ps_ret (pe_tup (pa_cons (pe_lst pa_nil) (pa_cons (pe_tup (pa_cons pe_str (pa_cons (pe_gc rfl T.c_MOST_CHARS) pa_nil))) pa_nil))))) pss_nil)
    (pss_cons (ps_set (i := 1) sc_scan.nd rfl (by first | exact Or.inl rfl | exact Or.inr rfl) (pe_lst pa_nil))
    (pss_cons (ps_set (i := 2) sc_scan.nd rfl (by first | exact Or.inl rfl | exact Or.inr rfl) pe_int)
    (pss_cons (ps_try_thru0 (pss_one (ps_while PassesOwn.never (pt_cmpR op_lt (pv 2) (pe_callB call_lenS rfl T.z_len PySem.boot_len (pa_cons (pv 0) pa_nil)) (nomark _)) (pss_one (ps_if (pt_cmpR op_inS (pe_ix ix_str (pv 0) (pv 2) (fun _ _ => rfl)) (pe_gc rfl T.c_BLANKS) rfl) (pss_one (ps_set (i := 2) sc_scan.nd rfl (by first | exact Or.inl rfl | exact Or.inr rfl) (pe_op op_add (pv 2) pe_int))) (pss_cons (ps_asg (pe_c G_take_token hr (by omega) rfl (pa_cons (pv 0) (pa_cons (pv 2) pa_nil))) (pg_tup (by rfl) (pgs_cons (pg_name (i := 3) sc_scan.nd rfl (by first | exact Or.inl rfl | exact Or.inr rfl)) (pgs_cons (pg_name (i := 2) sc_scan.nd rfl (by first | exact Or.inl rfl | exact Or.inr rfl)) pgs_nil))))
    (pss_one (ps_expr (pe_bm PySem.F.plainAttrs_list PySem.F.slot_list_append PySem.F.type_list_append mt_append (pv 1) (pa_cons (pv 3) pa_nil))))))))))
    (pss_one (ps_ret (pe_tup (pa_cons (pv 1) (pa_cons pe_non pa_nil))))))))), ?_⟩
  walk_at "w0"
  walk_at "w"
  refine i_rLenS hz2 ?_
  walk_at "w"
  refine i_F (decide_eq_false (by omega)) ?_
  walk_at "w"
  refine ⟨Nat.zero_le _, fun l hl => ?_⟩
  walk_at "w"
  refine ⟨WScan K H z ts l, ⟨_, 0, none, [], [], ts, rfl, Nat.zero_le _, rfl, same_new hl _, upd_same, Nat.zero_le _, rfl, hlex, rfl⟩, ?_⟩
  rintro μ σ H1 ⟨n, x3, vs, dn, rest, rfl, hn, rfl, s1, hl1, hvl, htk, hx, hts⟩
  walk_at "w"
  refine i_rLenS hz2 ?_
  walk_at "w"
  generalize ey : (tl z).drop n = y at hx
  cases hx with
  | nil =>
    have hn2 : n = (tl z).length := by
      have := List.drop_eq_nil_iff.mp ey
      omega
    refine i_F (decide_eq_false (by rw [len_tl]; omega)) ?_
    walk_at "w"
    refine ⟨le_line (by decide : 2 ≤ 100000), fun t ht => ?_⟩
    rw [List.append_nil] at hts
    subst hts
    have s2 := same_new ht (.tup [.ref l, .non])
    exact q _ t l vs (s1.trans s2) (s2 _ _ hl1) (htk.mono (Same.tup s2)) (SqT.of upd_same)
  | @blank r _ hx2 =>
    obtain ⟨h1, h2, h3⟩ := drop_at ey
    refine i_T (decide_eq_true (by rw [len_tl]; omega)) ?_
    refine ⟨WScan K H z ts l ((tl z).length - (n + 1)), fun σ' H' h => ⟨_, by omega, h⟩, ?_⟩
    walk_at "w"
    refine i_rIxS hz2 (atI_nat h1) ?_
    walk_at "w"
    exact ⟨n + 1, x3, vs, dn, rest, rfl, by omega, rfl, s1, hl1, by omega, htk, by rw [h2]; exact hx2, hts⟩
  | @tok x r tk ts2 hx1 hx2 =>
    obtain ⟨c, x', ex, hc⟩ := lex1_head hx1
    have ey2 : (tl z).drop n = c :: (x' ++ r) := by rw [ey, ex]; rfl
    obtain ⟨h1, h2, h3⟩ := drop_at ey2
    have hlen := mid_len ey hn
    have hx0 : 0 < x.length := by rw [ex]; simp
    refine i_T (decide_eq_true (by rw [len_tl]; omega)) ?_
    refine ⟨WScan K H z ts l ((tl z).length - (n + x.length)), fun σ' H' h => ⟨_, by omega, h⟩, ?_⟩
    walk_at "w"
    refine i_rIxS hz2 (atI_nat h1) ?_
    walk_at "w"
    refine i_F (by rw [blankT]; exact decide_eq_false hc) ?_
    walk_at "w"
    refine ⟨z, n, x, r, tk, rfl, hz2, ey, hx1, fun H2 t u s2 hu ht => ?_⟩
    walk_at "w"
    refine i_gtup ht rfl ?_
    walk_at "w"
    have hl2 := s2 _ _ hl1
    refine i_tyL (SqL.of hl2) ?_
    walk_at "w"
    refine i_append hl2 (lt_line (by rw [len_tl] at hz; omega)) ?_
    have g := tup_lst (K := K) (ys := vs ++ [.ref u]) hl2
    walk_at "w"
    refine ⟨n + x.length, some (.ref u), vs ++ [.ref u], dn ++ [tk], ts2, rfl, by omega, rfl, same_keep (s1.trans s2) hl, upd_same, ?_, ?_, ?_, ?_⟩
    · rw [List.length_append, List.length_singleton]
      omega
    · exact ToksR.snoc ⟨u, n, rfl, g _ _ hu⟩ (htk.mono ((Same.tup s2).trans g))
    · rw [mid_next ey]
      exact hx2
    · rw [List.append_assoc]
      exact hts
/-! ### parse -/
def spParse (K : PySem.W.Frag) : Sp := fun vs H Q _ => ∃ (z : Str) (ts : List Tk) (md : Md) (co co1 : Core) (e1 e : Ex) (n : Nat), vs = [.str z] ∧ z.length ≤ 300 ∧ Lex (tl z) ts ∧ Runs .operand co0 ts md co ∧ ((md = .done ∧ co1 = co) ∨ ∃ wd, md = .named wd ∧ co1 = co.named wd) ∧
  co1.made = some e1 ∧ AllInf co1.stack ∧ comb 0 co1.stack e1 co1.ops = some ([], e, n) ∧ co1.sel ≤ 6 ∧ n ≤ 8 ∧ depthOk 0 ts ∧ ∀ H' v, Same H H' → ER K H' e v → Q v H'
theorem sc_parse : FnScope (["text", "found", "wrong", "machine"] : List Str) (["text"] : List Str) (defScope s_parse) := ⟨rfl, rfl, rfl, by decide +kernel, rfl, by decide +kernel, by decide +kernel⟩
theorem k_parse (T : Txt w K mg) : Cal P w K mg base 9 "parse" (spParse K) := by
  have G_scan := k_scan (P := P) (base := base) T
  have G_machine_of := k_machine_of (P := P) (base := base) T
  have G_can_end := k_can_end (P := P) (base := base) T
  have G_end_named := k_end_named (P := P) (base := base) T
  have G_combine := k_combine (P := P) (base := base) T
  have G_check_depth := k_check_depth (P := P) (base := base) T
  have G_check_limits := k_check_limits (P := P) (base := base) T
  obtain ⟨fd, F⟩ := T.d_parse
  refine ⟨_, fd, ["text"], fn_ok F sc_parse (fun vs H Q E h => ?_) (fun cdv A outer s H vs Q E hr h => ?_), T.g_parse, F.kp, F.bindsN (fun _ _ _ _ _ _ us hl => match us, hl with | [_], _ => rfl)⟩
  · obtain ⟨_, _, _, _, _, _, _, _, rfl, _⟩ := h
    rfl
  obtain ⟨z, ts, md, co, co1, e1, e, n, rfl, hz, hlex, hrun, hmd, he1, hall, hcomb, hsel, hops, hdep, q⟩ := h
  have hz2 : z.length ≤ sizeLine := le_line (by omega)
  refine ⟨_, (pss_cons (ps_if (pt_cmpR op_gt (pe_callB call_lenS rfl T.z_len PySem.boot_len (pa_cons (pv 0) pa_nil)) (pe_gc rfl T.c_MOST_CHARS) (nomark _)) (pss_one ps_never) pss_nil)
    (pss_cons (ps_asg (pe_c G_scan hr (by omega) rfl (pa_cons (pv 0) pa_nil)) (pg_tup (by rfl) (pgs_cons (pg_name (i := 1) sc_parse.nd rfl (by first | exact Or.inl rfl | exact Or.inr rfl)) (pgs_cons (pg_name (i := 2) sc_parse.nd rfl (by first | exact Or.inl rfl | exact Or.inr rfl)) pgs_nil))))
    (pss_cons (ps_set (i := 3) sc_parse.nd rfl (by first | exact Or.inl rfl | exact Or.inr rfl) (pe_c G_machine_of hr (by omega) rfl (pa_cons (pv 1) pa_nil)))
    (pss_cons (ps_if (pt_cmpR op_notN' (pv 2) pe_non (nomark _)) (pss_one ps_never) pss_nil)
    (pss_cons (ps_if (pt_not (pt_val (pe_mt0 G_can_end hr (by omega) (pv 3)))) (pss_one ps_never) pss_nil)
    (pss_cons (ps_expr (pe_mt0 G_end_named hr (by omega) (pv 3)))
    (pss_cons (ps_expr (pe_mt G_combine hr (by omega) (pv 3) (pa_cons pe_int pa_nil)))
    (pss_cons (ps_expr (pe_c G_check_depth hr (by omega) rfl (pa_cons (pv 1) pa_nil)))
    (pss_cons (ps_expr (pe_c G_check_limits hr (by omega) rfl (pa_cons (pv 3) (pa_cons (pe_callB call_lenS rfl T.z_len PySem.boot_len (pa_cons (pv 0) pa_nil)) pa_nil))))
    (pss_one (ps_ret (pe_ix ix_tup (pe_fld (pv 3) rfl) pe_int (fun _ _ => rfl))))))))))))), ?_⟩
  walk_at "w0"
  walk_at "w"
  refine i_rLenS hz2 ?_
  walk_at "w"
  refine i_F (decide_eq_false (by omega)) ?_
  walk_at "w"
  refine ⟨z, ts, rfl, hz, hlex, fun H1 t l vs s1 hl htk ht => ?_⟩
  walk_at "w"
  refine i_gtup ht rfl ?_
  walk_at "w"
  refine ⟨l, vs, ts, md, co, rfl, SqL.of hl, htk, hrun, fun H2 p hp A => ?_⟩
  obtain ⟨m, a, b, c, d, M, hmode, hR, C⟩ := A
  have M0 := MT.start M
  have hall0 : AllInf co.stack := by
    rcases hmd with ⟨_, rfl⟩ | ⟨wd, _, rfl⟩
    · exact hall
    · exact hall
  walk_at "m"
  refine ⟨H1, p, m, a, b, c, d, co.stack, rfl, M, C.st, hall0, ?_, fun H3 M3 => ?_⟩
  · rcases hmd with ⟨rfl, _⟩ | ⟨wd, rfl, _⟩
    · exact .inr hmode
    · exact .inl hmode
  walk_at "m"
  have C3 : CoR K H3 m a d co := C.mono M3.tu rfl rfl rfl
  have R3 : MdR K H3 m b c md := by
    rcases hmd with ⟨rfl, _⟩ | ⟨wd, rfl, _⟩
    · exact hR
    · exact hR
  refine c_endB (MT.start M3.mo) hmode R3 C3 hmd fun H4 m4 b4 t4 M4 C4 => ?_
  walk_at "m"
  refine c_comb (least := 0) (MT.start M4.mo) C4.st (C4.made e1 he1) C4.ops hcomb fun H5 a5 md5 s5 m5 t5 M5 => ?_
  walk_at "m"
  have s15 : Same H1 H5 := M5.mo.same
  refine ⟨l, vs, ts, rfl, s15.seq (SqL.of hl), htk.mono (Same.tup s15), hdep, ?_⟩
  walk_at "m"
  refine i_rLenS hz2 ?_
  walk_at "m"
  refine ⟨H1, p, _, _, _, _, _, _, rfl, M5.mo, ?_, ?_, C4.spans.mono t5, ?_⟩
  · show m4.sel ≤ 6
    rw [C4.sel]
    omega
  · show (n : Int) ≤ 8
    omega
  walk_at "m"
  obtain ⟨t6, x6, k6, rfl, ht6, hx6, hk6⟩ := m5
  refine i_rIxT ht6 atI_0 ?_
  exact q H5 x6 (s1.trans s15) hx6
end
end Wf


set_option Elab.async false
set_option linter.all false
set_option maxRecDepth 100000
set_option maxHeartbeats 4000000
namespace Wf
open PySem PySem.Spec PyProof.Rows L2
open C8 (pe_gc)
local macro_rules | `(tactic| walk_at "w1") => `(tactic| first
  | with_reducible refine i_seq ?_
  | with_reducible refine i_asg ?_
  | with_reducible refine i_gname ?_
  | ((with_reducible refine' i_var ?ivar ?imain); (case ivar => exact rfl))
  | with_reducible refine i_c ?_
  | with_reducible refine i_op ?_
  | with_reducible refine i_if ?_
  | with_reducible refine i_test ?_
  | with_reducible refine i_tB ?_
  | with_reducible refine i_bl ?_
  | with_reducible refine i_ret ?_
  | with_reducible refine i_retN ?_
  | with_reducible refine i_drop ?_
  | with_reducible refine i_next ?_
  | with_reducible refine i_cons ?_
  | with_reducible refine i_nil ?_
  | with_reducible refine i_cb ?_
  | with_reducible refine i_tup ?_
  | with_reducible refine i_lst ?_
  | with_reducible refine i_fld ?_
  | with_reducible refine i_sfld ?_
  | with_reducible refine i_call ?_
  | with_reducible refine i_meth ?_
  | with_reducible refine i_and ?_
  | with_reducible refine i_or ?_
  | with_reducible refine i_not ?_
  | with_reducible refine i_andV ?_
  | with_reducible refine i_orV ?_
  | with_reducible refine i_notV ?_
  | with_reducible refine i_ifV ?_
  | with_reducible refine i_un ?_
  | with_reducible refine i_neg ?_
  | with_reducible refine i_gcons ?_
  | with_reducible refine i_sl ?_
  | with_reducible refine i_part ?_
  | with_reducible refine i_nopart ?_
  | with_reducible refine i_int ?_
  | with_reducible refine i_inS ?_
  | with_reducible refine i_notInS ?_
  | with_reducible refine i_tyS ?_
  | with_reducible refine i_forL ?_
  | with_reducible refine i_forT ?_
  | with_reducible refine i_forR1 ?_
  | with_reducible refine i_bm ?_
  | with_reducible refine i_bm0 ?_
  | with_reducible refine i_gnil ?_
  | with_reducible refine i_rI0 ?_
  | with_reducible refine i_rIsN ?_
  | with_reducible refine i_rNotN ?_
  | with_reducible refine i_rInt ?_
  | ((with_reducible refine i_rEq ?isc ?imain); (case isc => exact rfl))
  | ((with_reducible refine i_rNe ?isc ?imain); (case isc => exact rfl))
  | with_reducible refine i_T rfl ?_
  | with_reducible refine i_F rfl ?_
  | ((refine' i_T ?icnd ?imain); (case icnd => decide +kernel))
  | ((refine' i_F ?icnd ?imain); (case icnd => decide +kernel))
  | fail)
local macro_rules | `(tactic| walk_at "w") => `(tactic| (repeat' walk_at "w1"))
local macro_rules | `(tactic| walk_at "w0") => `(tactic| (simp only [cxOf, L2.start, List.map_cons, List.map_nil, List.length_cons, List.length_nil, Nat.reduceAdd, Nat.reduceSub, Nat.zero_add, List.replicate_zero, List.replicate_succ, List.cons_append, List.nil_append]))
local macro_rules | `(tactic| walk_at "tk") => `(tactic| (simp only [Tk.sign, Tk.val]))
local macro_rules | `(tactic| walk_at "c") => `(tactic| (dsimp only [List.set_cons_zero, List.set_cons_succ, List.cons_append, List.nil_append]))

section
variable {P : Program} {w : World} {K : PySem.W.Frag} {mg : Str → Option Value} {base : Heap} {H0 Hb H H' : Hp}
theorem hline {n : Nat} (h : n ≤ 100000) : n ≤ sizeLine := Nat.le_trans h (by decide)
/-! ### lengths -/
theorem str_app (a b : Str) : (a ++ b).length = a.length + b.length := by
  rw [TL.len_tl, TL.len_tl, TL.len_tl, TL.tl_append, List.length_append]
theorem sum_le {f : Str → Nat} {B : Nat} : ∀ {ys : List Str}, (∀ y ∈ ys, f y ≤ B) → (ys.map f).sum ≤ ys.length * B
  | [], _ => by simp
  | y :: ys, h => by
    have h1 := h y List.mem_cons_self
    have h2 := sum_le (f := f) (B := B) (ys := ys) fun z hz => h z (List.mem_cons_of_mem _ hz)
    rw [List.map_cons, List.sum_cons, List.length_cons, Nat.succ_mul]
    omega
theorem join_le (s : Str) (ys : List Str) : (Txt.join s ys).length ≤ (ys.map (·.length)).sum + ys.length * s.length := by
  rw [TL.join_eq]
  exact StrLaws.join_length_le s ys
theorem name_len {s : Str} (h : NameOk s) : s.length ≤ 20 := by
  obtain ⟨c, x, e, _, _, hl⟩ := h
  rw [TL.len_tl]
  show s.cps.toList.length ≤ 20
  rw [e, List.length_cons]
  omega
theorem worth_len {s : Str} (h : WorthOk s) : s.length ≤ 20 := by
  rw [TL.len_tl]
  exact h.2
theorem lit1 : (("\"" : Str)).length = 1 := by decide +kernel
theorem lit2 : (("=\"" : Str)).length = 2 := by decide +kernel
theorem lit3 : (("!=\"" : Str)).length = 3 := by decide +kernel
theorem lit4 : ((" in (" : Str)).length = 5 := by decide +kernel
theorem lit5 : ((" not in (" : Str)).length = 9 := by decide +kernel
theorem lit6 : ((", " : Str)).length = 2 := by decide +kernel
theorem lit7 : ((")" : Str)).length = 1 := by decide +kernel
theorem lit8 : (("(" : Str)).length = 1 := by decide +kernel
theorem lit9 : (("{" : Str)).length = 1 := by decide +kernel
theorem lit10 : (("}" : Str)).length = 1 := by decide +kernel
theorem lit11 : (("[" : Str)).length = 1 := by decide +kernel
theorem lit12 : (("])" : Str)).length = 2 := by decide +kernel
theorem lit13 : ((" by (" : Str)).length = 5 := by decide +kernel
theorem lit14 : ((") (" : Str)).length = 3 := by decide +kernel
theorem lit15 : ((" " : Str)).length = 1 := by decide +kernel
theorem lit16 : (("=" : Str)).length = 1 := by decide +kernel
theorem lit17 : (("!=" : Str)).length = 2 := by decide +kernel
theorem lit18 : ((") " : Str)).length = 2 := by decide +kernel
theorem ow_len (o : Ow) : o.str.length ≤ 10 := by cases o <;> decide +kernel
theorem aw_len (o : Aw) : o.str.length ≤ 5 := by cases o <;> decide +kernel
theorem op_len (o : Op) : o.str.length ≤ 6 := by cases o <;> decide +kernel
theorem q1_len (v : Str) : (q1 v).length = v.length + 2 := by
  unfold q1
  rw [str_app, str_app, lit1]
  omega
theorem showMat_len {m : Mat} (h : MatOk m) : (showMat m).length ≤ 200 := by
  have hn := name_len h.name.1
  have hs : (Txt.join (", " : Str) (m.values.map q1)).length ≤ 144 := by
    have h1 := join_le (", " : Str) (m.values.map q1)
    have h2 : ((m.values.map q1).map (·.length)).sum ≤ (m.values.map q1).length * 22 := sum_le fun y hy => by
      obtain ⟨v, hv, rfl⟩ := List.mem_map.mp hy
      have := worth_len (h.vals v hv)
      show (q1 v).length ≤ 22
      rw [q1_len]
      omega
    rw [List.length_map] at h1 h2
    rw [lit6] at h1
    have := h.few
    omega
  unfold showMat
  split
  · rename_i v e
    have hv := worth_len (h.vals v (by rw [e]; exact List.mem_cons_self))
    cases m.inside <;> simp only [if_true, if_false, Bool.false_eq_true, str_app, lit1, lit2, lit3] <;> omega
  · cases m.inside <;> simp only [if_true, if_false, Bool.false_eq_true, str_app, lit4, lit5, lit7] <;> omega
theorem mats_sum {ms : List Mat} (h : MatsOk ms) : ((ms.map showMat).map (·.length)).sum + (ms.map showMat).length * 2 ≤ 1212 := by
  have h2 : ((ms.map showMat).map (·.length)).sum ≤ (ms.map showMat).length * 200 := sum_le fun y hy => by
    obtain ⟨m, hm, rfl⟩ := List.mem_map.mp hy
    exact showMat_len (h.all m hm)
  rw [List.length_map] at h2 ⊢
  have := h.few
  omega
theorem mats_join {ms : List Mat} (h : MatsOk ms) : (Txt.join (", " : Str) (ms.map showMat)).length ≤ 1212 := by
  have h1 := join_le (", " : Str) (ms.map showMat)
  have h2 := mats_sum h
  rw [lit6] at h1
  omega
theorem showSel_len {m : Str} {ms : List Mat} (hm : NameOk m) (h : MatsOk ms) : (showSel m ms).length ≤ 1240 := by
  have h1 := name_len hm
  have h2 := mats_join h
  unfold showSel
  split
  · omega
  · simp only [str_app, lit9, lit10]
    omega
theorem names_sum {ns : List Str} (h : ∀ n ∈ ns, NameOk n) (hl : ns.length ≤ 6) : (ns.map (·.length)).sum + ns.length * 2 ≤ 132 := by
  have h2 : (ns.map (·.length)).sum ≤ ns.length * 20 := sum_le fun y hy => name_len (h y hy)
  omega
theorem names_join {ns : List Str} (h : ∀ n ∈ ns, NameOk n) (hl : ns.length ≤ 6) : (Txt.join (", " : Str) ns).length ≤ 132 := by
  have h1 := join_le (", " : Str) ns
  have h2 := names_sum h hl
  rw [lit6] at h1
  omega
theorem nat_len {n : Nat} (h : n < 10 ^ 16) : (Str.ofString (toString (n : Int))).length ≤ 16 := by
  rw [TL.len_tl, TL.tl_num]
  exact TL.numL_len (by decide) h
theorem int_str (n : Int) : (Str.ofString (toString n)) = if 0 ≤ n then Str.ofString (toString ((n.toNat : Nat) : Int)) else ("-" : Str) ++ Str.ofString (toString (((-n).toNat : Nat) : Int)) := by
  split
  · rename_i h
    rw [Int.toNat_of_nonneg h]
  · rename_i h
    obtain ⟨k, rfl⟩ : ∃ k : Nat, n = Int.negSucc k := by
      cases n with
      | ofNat k => exact absurd (Int.natCast_nonneg k) h
      | negSucc k => exact ⟨k, rfl⟩
    have e : (((-(Int.negSucc k)).toNat : Nat) : Int) = ((k + 1 : Nat) : Int) := by
      rw [Int.neg_negSucc]
      rfl
    rw [e]
    apply TL.ext_tl
    rw [TL.tl_append, TL.tl_ofString, TL.tl_ofString, TL.tl_ofString]
    have e1 : (toString (Int.negSucc k) : String) = "-" ++ toString (k + 1) := rfl
    have e2 : (toString ((k + 1 : Nat) : Int) : String) = toString (k + 1) := rfl
    rw [e1, e2, String.toList_append, List.map_append]
theorem int_len {n : Int} (h : n.natAbs < 1000000000000000) : (Str.ofString (toString n)).length ≤ 17 := by
  rw [int_str]
  split
  · have := nat_len (n := n.toNat) (by omega)
    omega
  · have := nat_len (n := (-n).toNat) (by omega)
    rw [str_app]
    have e : (("-" : Str)).length = 1 := by decide +kernel
    omega
theorem brk_len (b : Bool) (x : Str) : (brk b x).length ≤ x.length + 2 := by
  unfold brk
  cases b
  · simp
  · simp only [if_true, str_app, lit7, lit8]
    omega
theorem show_len : ∀ {e : Ex}, e.Ok → e.show.length ≤ 1300 * e.size
  | .num n, h => by
    have := int_len (n := n) h
    show (Str.ofString (toString n)).length ≤ 1300 * 1
    omega
  | .latest m ms, h => by
    have := showSel_len h.1 h.2
    show (showSel m ms).length ≤ 1300 * 1
    omega
  | .over o m ms s, h => by
    have h1 := showSel_len h.1 h.2.1
    have h2 := ow_len o
    have h3 := int_len (n := s) (by have := h.2.2; omega)
    show (o.str ++ ("(" : Str) ++ showSel m ms ++ ("[" : Str) ++ (Str.ofString (toString s)) ++ ("])" : Str)).length ≤ 1300 * 1
    simp only [str_app, lit8, lit11, lit12]
    omega
  | .bin o l r, h => by
    have h1 := show_len h.1
    have h2 := show_len h.2
    have h3 := op_len o
    have h4 := brk_len (decide (l.lev < o.lev)) l.show
    have h5 := brk_len (decide (r.lev < o.lev + 1)) r.show
    show (brk (decide (l.lev < o.lev)) l.show ++ (" " : Str) ++ o.str ++ (" " : Str) ++ brk (decide (r.lev < o.lev + 1)) r.show).length ≤ 1300 * (l.size + r.size + 1)
    simp only [str_app, lit15]
    omega
  | .agg o ns i, h => by
    have h1 := show_len h.2.2
    have h2 := aw_len o
    have h3 := names_join h.1 h.2.1
    show (showAgg o.str ns i.show).length ≤ 1300 * (i.size + 1)
    unfold showAgg
    split
    · simp only [str_app, lit7, lit8]
      omega
    · simp only [str_app, lit7, lit13, lit14]
      omega
end
end Wf


set_option Elab.async false
set_option linter.all false
set_option maxRecDepth 100000
set_option maxHeartbeats 4000000
namespace Wf
open PySem PySem.Spec PyProof.Rows L2
open C8 (pe_gc)
local macro_rules | `(tactic| walk_at "w1") => `(tactic| first
  | with_reducible refine i_seq ?_
  | with_reducible refine i_asg ?_
  | with_reducible refine i_gname ?_
  | ((with_reducible refine' i_var ?ivar ?imain); (case ivar => exact rfl))
  | with_reducible refine i_c ?_
  | with_reducible refine i_op ?_
  | with_reducible refine i_if ?_
  | with_reducible refine i_test ?_
  | with_reducible refine i_tB ?_
  | with_reducible refine i_bl ?_
  | with_reducible refine i_ret ?_
  | with_reducible refine i_retN ?_
  | with_reducible refine i_drop ?_
  | with_reducible refine i_next ?_
  | with_reducible refine i_cons ?_
  | with_reducible refine i_nil ?_
  | with_reducible refine i_cb ?_
  | with_reducible refine i_tup ?_
  | with_reducible refine i_lst ?_
  | with_reducible refine i_fld ?_
  | with_reducible refine i_sfld ?_
  | with_reducible refine i_call ?_
  | with_reducible refine i_meth ?_
  | with_reducible refine i_and ?_
  | with_reducible refine i_or ?_
  | with_reducible refine i_not ?_
  | with_reducible refine i_andV ?_
  | with_reducible refine i_orV ?_
  | with_reducible refine i_notV ?_
  | with_reducible refine i_ifV ?_
  | with_reducible refine i_un ?_
  | with_reducible refine i_neg ?_
  | with_reducible refine i_gcons ?_
  | with_reducible refine i_sl ?_
  | with_reducible refine i_part ?_
  | with_reducible refine i_nopart ?_
  | with_reducible refine i_int ?_
  | with_reducible refine i_inS ?_
  | with_reducible refine i_notInS ?_
  | with_reducible refine i_tyS ?_
  | with_reducible refine i_forL ?_
  | with_reducible refine i_forT ?_
  | with_reducible refine i_forR1 ?_
  | with_reducible refine i_bm ?_
  | with_reducible refine i_bm0 ?_
  | with_reducible refine i_gnil ?_
  | with_reducible refine i_rI0 ?_
  | with_reducible refine i_rIsN ?_
  | with_reducible refine i_rNotN ?_
  | with_reducible refine i_rInt ?_
  | ((with_reducible refine i_rEq ?isc ?imain); (case isc => exact rfl))
  | ((with_reducible refine i_rNe ?isc ?imain); (case isc => exact rfl))
  | with_reducible refine i_T rfl ?_
  | with_reducible refine i_F rfl ?_
  | ((refine' i_T ?icnd ?imain); (case icnd => decide +kernel))
  | ((refine' i_F ?icnd ?imain); (case icnd => decide +kernel))
  | fail)
local macro_rules | `(tactic| walk_at "w") => `(tactic| (repeat' walk_at "w1"))
local macro_rules | `(tactic| walk_at "w0") => `(tactic| (simp only [cxOf, L2.start, List.map_cons, List.map_nil, List.length_cons, List.length_nil, Nat.reduceAdd, Nat.reduceSub, Nat.zero_add, List.replicate_zero, List.replicate_succ, List.cons_append, List.nil_append]))
local macro_rules | `(tactic| walk_at "tk") => `(tactic| (simp only [Tk.sign, Tk.val]))
local macro_rules | `(tactic| walk_at "c") => `(tactic| (dsimp only [List.set_cons_zero, List.set_cons_succ, List.cons_append, List.nil_append]))

local macro_rules | `(tactic| walk_at "len") => `(tactic| (refine le_line ?_; simp only [str_app, lit1, lit2, lit3, lit4, lit5, lit6, lit7, lit8, lit9, lit10, lit11, lit12, lit13, lit14, lit15, lit16, lit17, lit18]; omega))
local macro_rules | `(tactic| walk_at "s1") => `(tactic| first
  | walk_at "w1"
  | (refine i_rAddS (by walk_at "len") ?_)
  | fail)
local macro_rules | `(tactic| walk_at "s") => `(tactic| (repeat' walk_at "s1"))
section
variable {P : Program} {w : World} {K : PySem.W.Frag} {mg : Str → Option Value} {base : Heap} {H0 Hb H H' : Hp}
/-! ### comprehensions -/
def LcW (J : It) (g : TG) (te : TE) (vs : List Nat) (σ : L2.St) (H1 : Hp) (Q : VK) : Prop := ∀ D, H1 D = none → ∃ W : Nat → Nat → Hp → Prop, (∃ m, W 0 m (upd H1 D (.lst []))) ∧ ∀ i m H, W i m H →
  (J.stop i H ∧ Q (.ref D) H) ∨ (J.go i H ∧ ∃ Nx : Hp → Prop, (∀ H', Nx H' → ∃ m', m' < m ∧ W (i + 1) m' H') ∧ ∀ x H', J.yld i H x H' → g x (wipe σ vs) H' fun σ2 H2 => wipe σ2 vs = wipe σ vs ∧ tYes σ2 H2 fun b H3 =>
    if b = true then te σ2 H3 fun y H4 => ∃ acc, H4 D = some (.lst acc) ∧ acc.length < sizeLine ∧ Nx (upd H4 D (.lst (acc ++ [y]))) else Nx H3)
theorem i_lcT {t te : TE} {g : TG} {vs : List Nat} {σ : L2.St} {Q : VK} (h : t σ H fun x H1 => ∃ a, x = .ref a ∧ (∃ xs, SqT K H1 a xs) ∧ LcW (Itt K a) g te vs σ H1 Q) : tLc (iTup K t) g tYes te vs σ H Q := h
theorem i_lcL {t te : TE} {g : TG} {vs : List Nat} {σ : L2.St} {Q : VK} (h : t σ H fun x H1 => ∃ a, x = .ref a ∧ (∃ xs, SqL K H1 a xs) ∧ LcW (Itl K a) g te vs σ H1 Q) : tLc (iList K t) g tYes te vs σ H Q := h
theorem i_lcR {ta : TA} {te : TE} {g : TG} {vs : List Nat} {σ : L2.St} {Q : VK} (h : ta σ H fun us H1 => ∃ j : Int, us = [.int j] ∧ -(2 ^ 62) ≤ j ∧ j < 2 ^ 62 ∧ LcW (Itr 0 j.toNat) g te vs σ H1 Q) : tLc (iRng1 ta) g tYes te vs σ H Q := h
/-- so stands the new list after i turns -/
def LcI (Y : Nat → Hp → V → Prop) (H : Hp) (D : Addr) (i : Nat) (H' : Hp) : Prop := ∃ acc : List V, Same H H' ∧ H D = none ∧ H' D = some (.lst acc) ∧ acc.length = i ∧ ∀ j y, acc[j]? = some y → Y j H' y
theorem LcI.next {Y : Nat → Hp → V → Prop} (hm : ∀ j H H' v, TupLe K H H' → Y j H v → Y j H' v) {D : Addr} {i : Nat} {H4 : Hp} {y : V} (hi : i < 100000) (h : LcI Y H D i H') (s : Same H' H4) (hy : Y i H4 y) :
    ∃ acc, H4 D = some (.lst acc) ∧ acc.length < sizeLine ∧ LcI Y H D (i + 1) (upd H4 D (.lst (acc ++ [y]))) := by
  obtain ⟨acc, s0, h0, h1, h2, h3⟩ := h
  have g := tup_lst (K := K) (ys := acc ++ [y]) (s _ _ h1)
  refine ⟨acc, s _ _ h1, lt_line (by omega), acc ++ [y], same_keep (s0.trans s) h0, h0, upd_same, by rw [List.length_append, h2]; rfl, fun j z hz => ?_⟩
  rw [List.getElem?_append] at hz
  split at hz
  · exact hm _ _ _ _ ((Same.tup s).trans g) (h3 j z hz)
  · rename_i hj
    have ej : j = i := by
      have := (List.getElem?_eq_some_iff.mp hz).1
      simp only [List.length_singleton] at this
      omega
    rw [h2, ej, Nat.sub_self] at hz
    cases hz
    rw [ej]
    exact hm _ _ _ _ g hy
theorem LcI.zero {Y : Nat → Hp → V → Prop} {D : Addr} (h : H D = none) : LcI Y H D 0 (upd H D (.lst [])) := ⟨[], same_new h _, h, upd_same, rfl, fun j y e => by cases e⟩
theorem i_lcTup {a : Addr} {xs : List V} {g : TG} {te : TE} {vs : List Nat} {σ : L2.St} {Q : VK} (Y : Nat → Hp → V → Prop) (h1 : SqT K H a xs) (hz : xs.length ≤ 100000) (hm : ∀ j H H' v, TupLe K H H' → Y j H v → Y j H' v)
    (hs : ∀ i x Hi (R : VK), xs[i]? = some x → Same H Hi → (∀ y H4, Same Hi H4 → Y i H4 y → R y H4) → g x (wipe σ vs) Hi fun σ2 H2 => wipe σ2 vs = wipe σ vs ∧ te σ2 H2 R)
    (hd : ∀ D H' ys, Same H H' → H' D = some (.lst ys) → ys.length = xs.length → (∀ j y, ys[j]? = some y → Y j H' y) → Q (.ref D) H') :
    ∃ q, V.ref a = .ref q ∧ (∃ xs, SqT K H q xs) ∧ LcW (Itt K q) g te vs σ H Q :=
  ⟨a, rfl, ⟨xs, h1⟩, fun D hD => lc_tup (xs := xs) (LcI Y H D) (LcI.zero hD) (fun i H' _ p => by obtain ⟨_, s, _⟩ := p; exact Same.sqT s h1)
    (fun i x Hi hx p => hs i x Hi _ hx (by obtain ⟨_, s, _⟩ := p; exact s) fun y H4 s hy => p.next hm (by have := (List.getElem?_eq_some_iff.mp hx).1; omega) s hy)
    (fun H' p => by obtain ⟨acc, s, _, h2, h3, h4⟩ := p; exact hd D H' acc s h2 h3 h4)⟩
theorem i_lcList {a : Addr} {xs : List V} {g : TG} {te : TE} {vs : List Nat} {σ : L2.St} {Q : VK} (Y : Nat → Hp → V → Prop) (h1 : SqL K H a xs) (hz : xs.length ≤ 100000) (hm : ∀ j H H' v, TupLe K H H' → Y j H v → Y j H' v)
    (hs : ∀ i x Hi (R : VK), xs[i]? = some x → Same H Hi → (∀ y H4, Same Hi H4 → Y i H4 y → R y H4) → g x (wipe σ vs) Hi fun σ2 H2 => wipe σ2 vs = wipe σ vs ∧ te σ2 H2 R)
    (hd : ∀ D H' ys, Same H H' → H' D = some (.lst ys) → ys.length = xs.length → (∀ j y, ys[j]? = some y → Y j H' y) → Q (.ref D) H') :
    ∃ q, V.ref a = .ref q ∧ (∃ xs, SqL K H q xs) ∧ LcW (Itl K q) g te vs σ H Q :=
  ⟨a, rfl, ⟨xs, h1⟩, fun D hD => lc_list (xs := xs) (LcI Y H D) (LcI.zero hD) (fun i H' _ p => by obtain ⟨_, s, _⟩ := p; exact s.seq h1)
    (fun i x Hi hx p => hs i x Hi _ hx (by obtain ⟨_, s, _⟩ := p; exact s) fun y H4 s hy => p.next hm (by have := (List.getElem?_eq_some_iff.mp hx).1; omega) s hy)
    (fun H' p => by obtain ⟨acc, s, _, h2, h3, h4⟩ := p; exact hd D H' acc s h2 h3 h4)⟩
theorem i_lcRng {n : Int} {g : TG} {te : TE} {vs : List Nat} {σ : L2.St} {Q : VK} (Y : Nat → Hp → V → Prop) (hz : n ≤ 100000) (hm : ∀ j H H' v, TupLe K H H' → Y j H v → Y j H' v) (h0 : 0 ≤ n)
    (hs : ∀ (i : Nat) Hi (R : VK), (i : Int) < n → Same H Hi → (∀ y H4, Same Hi H4 → Y i H4 y → R y H4) → g (.int i) (wipe σ vs) Hi fun σ2 H2 => wipe σ2 vs = wipe σ vs ∧ te σ2 H2 R)
    (hd : ∀ D H' ys, Same H H' → H' D = some (.lst ys) → (ys.length : Int) = n → (∀ j y, ys[j]? = some y → Y j H' y) → Q (.ref D) H') :
    ∃ j : Int, [V.int n] = [.int j] ∧ -(2 ^ 62) ≤ j ∧ j < 2 ^ 62 ∧ LcW (Itr 0 j.toNat) g te vs σ H Q :=
  ⟨n, rfl, by omega, by omega, fun D hD => lc_range (LcI Y H D) (LcI.zero hD)
    (fun i Hi hi p => by rw [Int.zero_add]; exact hs i Hi _ (by omega) (by obtain ⟨_, s, _⟩ := p; exact s) fun y H4 s hy => p.next hm (by omega) s hy)
    (fun H' p => by obtain ⟨acc, s, _, h2, h3, h4⟩ := p; exact hd D H' acc s h2 (by omega) h4)⟩
/-- the values are known -/
theorem lc_known {ys zs : List V} {Y : Nat → V → Prop} (hl : ys.length = zs.length) (h : ∀ j y, ys[j]? = some y → Y j y) (hy : ∀ j y, Y j y → zs[j]? = some y) : ys = zs := by
  apply List.ext_getElem?
  intro i
  cases e : ys[i]? with
  | some y => exact (hy _ _ (h _ _ e)).symm
  | none =>
    rw [List.getElem?_eq_none_iff] at e
    exact (List.getElem?_eq_none_iff.mpr (by omega)).symm
theorem i_M1 {r : V → List V → Hp → VK → Prop} {to te : TE} {σ : L2.St} {Q : VK} (h : to σ H fun x H1 => (∃ a, x = .str a) ∧ te σ H1 fun y H2 => r x [y] H2 Q) : tM1 r to te σ H Q := h
/-! ### the printing -/
def spMat (K : PySem.W.Frag) : Sp := fun vs H Q _ => ∃ (a b : Addr) (m : Mat), vs = [.ref a] ∧ SqT K H a [.str m.name, .ref b, .bl m.inside] ∧ SqT K H b (m.values.map V.str) ∧ MatOk m ∧ ∀ H', Same H H' → Q (.str (showMat m)) H'
theorem sc_show_matcher : FnScope (["matcher", "name", "values", "inside", "word", "value"] : List Str) (["matcher"] : List Str) (defScope s_show_matcher) := ⟨rfl, rfl, rfl, by decide +kernel, rfl, by decide +kernel, by decide +kernel⟩
theorem k_show_matcher (T : Txt w K mg) : Cal P w K mg base 1 "show_matcher" (spMat K) := by
  obtain ⟨fd, F⟩ := T.d_show_matcher
  refine ⟨_, fd, ["matcher"], fn_ok F sc_show_matcher (fun vs H Q E h => ?_) (fun cdv A outer s H vs Q E hr h => ?_), T.g_show_matcher, F.kp, F.bindsN (fun _ _ _ _ _ _ us hl => match us, hl with | [_], _ => rfl)⟩
  · obtain ⟨_, _, _, rfl, _⟩ := h
    rfl
  obtain ⟨a, b, ⟨nm, vals, ins⟩, rfl, ha, hb, ok, q⟩ := h
  have hn : nm.length ≤ 20 := name_len ok.name.1
  have hvs : ∀ v ∈ vals, v.length ≤ 20 := fun v hv => worth_len (ok.vals v hv)
  have hf : vals.length ≤ 6 := ok.few
  replace hb : SqT K H b (vals.map V.str) := hb
  refine ⟨_, (pss_cons (ps_asg (pv 0) (pg_tup (by rfl) (pgs_cons (pg_name (i := 1) sc_show_matcher.nd rfl (by first | exact Or.inl rfl | exact Or.inr rfl)) (pgs_cons (pg_name (i := 2) sc_show_matcher.nd rfl (by first | exact Or.inl rfl | exact Or.inr rfl)) (pgs_cons (pg_name (i := 3) sc_show_matcher.nd rfl (by first | exact Or.inl rfl | exact Or.inr rfl)) pgs_nil)))))
    (pss_cons (ps_if (pt_cmpR op_eq (pe_callB call_len' rfl T.z_len PySem.boot_len (pa_cons (pv 2) pa_nil)) pe_int (nomark _)) (pss_cons (ps_if (pt_val (pv 3)) (pss_one (ps_ret (pe_op op_addS (pe_op op_addS (pe_op op_addS (pv 1) pe_str) (pe_ix ix_tup (pv 2) pe_int (fun _ _ => rfl))) pe_str))) pss_nil)
    (pss_one (ps_ret (pe_op op_addS (pe_op op_addS (pe_op op_addS (pv 1) pe_str) (pe_ix ix_tup (pv 2) pe_int (fun _ _ => rfl))) pe_str)))) pss_nil)
    (pss_cons (ps_set (i := 4) sc_show_matcher.nd rfl (by first | exact Or.inl rfl | exact Or.inr rfl) pe_str)
    (pss_cons (ps_if (pt_not (pt_val (pv 3))) (pss_one (ps_set (i := 4) sc_show_matcher.nd rfl (by first | exact Or.inl rfl | exact Or.inr rfl) pe_str)) pss_nil)
    (pss_one (ps_ret (pe_op op_addS (pe_op op_addS (pe_op op_addS (pv 1) (pv 4)) (pe_join pe_str (pe_lc (own := [("value", 5)]) (g := gName 5) (tt := tYes) rfl sc_show_matcher.nd (pi_tup (pv 2)) (blkOk_by (own := [("value", 5)]) (N := ["matcher", "name", "values", "inside", "word", "value"]) (sc := defScope s_show_matcher) (by decide +kernel)) (fun _ _ _ _ _ => (pg_name (i := 5) sc_show_matcher.nd rfl (by first | exact Or.inl rfl | exact Or.inr rfl))) (fun _ _ _ _ _ => pts_nil) (fun _ _ _ _ _ => (pe_op op_addS (pe_op op_addS pe_str (pv 5)) pe_str))))) pe_str))))))), ?_⟩
  walk_at "w0"
  walk_at "w"
  refine i_gtup ha rfl ?_
  walk_at "w"
  refine i_rLen (.inr hb) ?_
  walk_at "w"
  have hc : (∃ v, vals = [v]) ∨ (vals.length ≠ 1 ∧ ∀ b, showMat ⟨nm, vals, b⟩ = nm ++ (if b then (" in (" : Str) else (" not in (" : Str)) ++ Txt.join (", " : Str) (vals.map q1) ++ (")" : Str)) := by
    have hne : vals ≠ [] := ok.ne
    rcases vals with _ | ⟨v, _ | ⟨v2, vr⟩⟩
    · exact absurd rfl hne
    · exact .inl ⟨v, rfl⟩
    · exact .inr ⟨by simp, fun b => rfl⟩
  rcases hc with ⟨v, rfl⟩ | ⟨hne, esh⟩
  · skip
    have hv : v.length ≤ 20 := hvs v List.mem_cons_self
    refine i_T (decide_eq_true rfl) ?_
    cases ins with
    | true =>
      walk_at "s"
      refine i_rIxT hb atI_0 ?_
      walk_at "s"
      exact q H (Same.refl H)
    | false =>
      walk_at "s"
      refine i_rIxT hb atI_0 ?_
      walk_at "s"
      exact q H (Same.refl H)
  · refine i_F (decide_eq_false (fun e => ?_)) ?_
    · have := V.int.inj e
      rw [List.length_map] at this
      omega
    have hsum : ((vals.map q1).map (·.length)).sum ≤ (vals.map q1).length * 22 := sum_le fun y hy => by
      obtain ⟨v, hv, rfl⟩ := List.mem_map.mp hy
      have := hvs v hv
      show (q1 v).length ≤ 22
      rw [q1_len]
      omega
    have hjl := join_le (", " : Str) (vals.map q1)
    rw [List.length_map] at hsum hjl
    rw [lit6] at hjl
    have hj2 : (Txt.join (", " : Str) (vals.map q1)).length ≤ 144 := by omega
    rw [esh] at q
    cases ins with
    | true =>
      walk_at "s"
      refine i_M1 ?_
      walk_at "s"
      refine ⟨⟨_, rfl⟩, i_lcT ?_⟩
      walk_at "s"
      refine i_lcTup (fun j H' y => ∃ v, vals[j]? = some v ∧ y = .str (q1 v)) hb (by rw [List.length_map]; omega) (fun _ _ _ _ _ h => h) (fun i x Hi R hx si hR => ?_) (fun D H' ys s' hD hl hY => ?_)
      · rw [List.getElem?_map] at hx
        obtain ⟨v, hv, rfl⟩ := Option.map_eq_some_iff.mp hx
        have hv2 := hvs v (List.mem_of_getElem? hv)
        walk_at "s"
        refine ⟨rfl, ?_⟩
        walk_at "s"
        exact hR _ _ (Same.refl Hi) ⟨v, hv, rfl⟩
      · have e : ys = (vals.map q1).map V.str := lc_known (Y := fun j y => ∃ v, vals[j]? = some v ∧ y = .str (q1 v)) (by rw [hl]; simp) hY fun j y hy => by
          obtain ⟨v, hv, rfl⟩ := hy
          rw [List.getElem?_map, List.getElem?_map, hv]
          rfl
        refine ⟨_, D, vals.map q1, rfl, rfl, .inl (SqL.of (by rw [hD, e])), by rw [lit6, List.length_map]; omega, ?_⟩
        walk_at "s"
        exact q H' s'
    | false =>
      walk_at "s"
      refine i_M1 ?_
      walk_at "s"
      refine ⟨⟨_, rfl⟩, i_lcT ?_⟩
      walk_at "s"
      refine i_lcTup (fun j H' y => ∃ v, vals[j]? = some v ∧ y = .str (q1 v)) hb (by rw [List.length_map]; omega) (fun _ _ _ _ _ h => h) (fun i x Hi R hx si hR => ?_) (fun D H' ys s' hD hl hY => ?_)
      · rw [List.getElem?_map] at hx
        obtain ⟨v, hv, rfl⟩ := Option.map_eq_some_iff.mp hx
        have hv2 := hvs v (List.mem_of_getElem? hv)
        walk_at "s"
        refine ⟨rfl, ?_⟩
        walk_at "s"
        exact hR _ _ (Same.refl Hi) ⟨v, hv, rfl⟩
      · have e : ys = (vals.map q1).map V.str := lc_known (Y := fun j y => ∃ v, vals[j]? = some v ∧ y = .str (q1 v)) (by rw [hl]; simp) hY fun j y hy => by
          obtain ⟨v, hv, rfl⟩ := hy
          rw [List.getElem?_map, List.getElem?_map, hv]
          rfl
        refine ⟨_, D, vals.map q1, rfl, rfl, .inl (SqL.of (by rw [hD, e])), by rw [lit6, List.length_map]; omega, ?_⟩
        walk_at "s"
        exact q H' s'
end
end Wf


set_option Elab.async false
set_option linter.all false
set_option maxRecDepth 100000
set_option maxHeartbeats 4000000
namespace Wf
open PySem PySem.Spec PyProof.Rows L2
open C8 (pe_gc)
local macro_rules | `(tactic| walk_at "w1") => `(tactic| first
  | with_reducible refine i_seq ?_
  | with_reducible refine i_asg ?_
  | with_reducible refine i_gname ?_
  | ((with_reducible refine' i_var ?ivar ?imain); (case ivar => exact rfl))
  | with_reducible refine i_c ?_
  | with_reducible refine i_op ?_
  | with_reducible refine i_if ?_
  | with_reducible refine i_test ?_
  | with_reducible refine i_tB ?_
  | with_reducible refine i_bl ?_
  | with_reducible refine i_ret ?_
  | with_reducible refine i_retN ?_
  | with_reducible refine i_drop ?_
  | with_reducible refine i_next ?_
  | with_reducible refine i_cons ?_
  | with_reducible refine i_nil ?_
  | with_reducible refine i_cb ?_
  | with_reducible refine i_tup ?_
  | with_reducible refine i_lst ?_
  | with_reducible refine i_fld ?_
  | with_reducible refine i_sfld ?_
  | with_reducible refine i_call ?_
  | with_reducible refine i_meth ?_
  | with_reducible refine i_and ?_
  | with_reducible refine i_or ?_
  | with_reducible refine i_not ?_
  | with_reducible refine i_andV ?_
  | with_reducible refine i_orV ?_
  | with_reducible refine i_notV ?_
  | with_reducible refine i_ifV ?_
  | with_reducible refine i_un ?_
  | with_reducible refine i_neg ?_
  | with_reducible refine i_gcons ?_
  | with_reducible refine i_sl ?_
  | with_reducible refine i_part ?_
  | with_reducible refine i_nopart ?_
  | with_reducible refine i_int ?_
  | with_reducible refine i_inS ?_
  | with_reducible refine i_notInS ?_
  | with_reducible refine i_tyS ?_
  | with_reducible refine i_forL ?_
  | with_reducible refine i_forT ?_
  | with_reducible refine i_forR1 ?_
  | with_reducible refine i_bm ?_
  | with_reducible refine i_bm0 ?_
  | with_reducible refine i_gnil ?_
  | with_reducible refine i_rI0 ?_
  | with_reducible refine i_rIsN ?_
  | with_reducible refine i_rNotN ?_
  | with_reducible refine i_rInt ?_
  | ((with_reducible refine i_rEq ?isc ?imain); (case isc => exact rfl))
  | ((with_reducible refine i_rNe ?isc ?imain); (case isc => exact rfl))
  | with_reducible refine i_T rfl ?_
  | with_reducible refine i_F rfl ?_
  | ((refine' i_T ?icnd ?imain); (case icnd => decide +kernel))
  | ((refine' i_F ?icnd ?imain); (case icnd => decide +kernel))
  | fail)
local macro_rules | `(tactic| walk_at "w") => `(tactic| (repeat' walk_at "w1"))
local macro_rules | `(tactic| walk_at "w0") => `(tactic| (simp only [cxOf, L2.start, List.map_cons, List.map_nil, List.length_cons, List.length_nil, Nat.reduceAdd, Nat.reduceSub, Nat.zero_add, List.replicate_zero, List.replicate_succ, List.cons_append, List.nil_append]))
local macro_rules | `(tactic| walk_at "tk") => `(tactic| (simp only [Tk.sign, Tk.val]))
local macro_rules | `(tactic| walk_at "c") => `(tactic| (dsimp only [List.set_cons_zero, List.set_cons_succ, List.cons_append, List.nil_append]))

local macro_rules | `(tactic| walk_at "len") => `(tactic| (refine le_line ?_; simp only [str_app, lit1, lit2, lit3, lit4, lit5, lit6, lit7, lit8, lit9, lit10, lit11, lit12, lit13, lit14, lit15, lit16, lit17, lit18]; omega))
local macro_rules | `(tactic| walk_at "s1") => `(tactic| first
  | walk_at "w1"
  | (refine i_rAddS (by walk_at "len") ?_)
  | fail)
local macro_rules | `(tactic| walk_at "s") => `(tactic| (repeat' walk_at "s1"))
section
variable {P : Program} {w : World} {K : PySem.W.Frag} {mg : Str → Option Value} {base : Heap} {H0 Hb H H' : Hp}
theorem MatsR.at_ : ∀ {ms : List Mat} {vs : List V} {i : Nat} {x : V}, MatsR K H ms vs → vs[i]? = some x → ∃ (m : Mat) (a b : Addr), ms[i]? = some m ∧ x = .ref a ∧ SqT K H a [.str m.name, .ref b, .bl m.inside] ∧ SqT K H b (m.values.map V.str)
  | [], vs, i, x, h, e => by
    rw [show vs = [] from h] at e
    cases e
  | m :: ms, vs, 0, x, ⟨a, b, r, h1, h2, h3, h4⟩, e => by
    rw [h1] at e
    cases e
    exact ⟨m, a, b, rfl, rfl, h2, h3⟩
  | m :: ms, vs, i + 1, x, ⟨a, b, r, h1, h2, h3, h4⟩, e => by
    rw [h1] at e
    exact MatsR.at_ (ms := ms) (i := i) h4 e
theorem MatsR.len : ∀ {ms : List Mat} {vs : List V}, MatsR K H ms vs → vs.length = ms.length
  | [], vs, h => by rw [show vs = [] from h]; rfl
  | _ :: ms, vs, ⟨a, b, r, h1, h2, h3, h4⟩ => by rw [h1, List.length_cons, List.length_cons, MatsR.len h4]
def spSel (K : PySem.W.Frag) : Sp := fun vs H Q _ => ∃ (s : Str) (b : Addr) (ms : List Mat) (xs : List V), vs = [.str s, .ref b] ∧ SqT K H b xs ∧ MatsR K H ms xs ∧ NameOk s ∧ MatsOk ms ∧ ∀ H', Same H H' → Q (.str (showSel s ms)) H'
theorem sc_show_selector : FnScope (["metric", "matchers", "matcher"] : List Str) (["metric", "matchers"] : List Str) (defScope s_show_selector) := ⟨rfl, rfl, rfl, by decide +kernel, rfl, by decide +kernel, by decide +kernel⟩
theorem k_show_selector (T : Txt w K mg) : Cal P w K mg base 2 "show_selector" (spSel K) := by
  have G_show_matcher := k_show_matcher (P := P) (base := base) T
  obtain ⟨fd, F⟩ := T.d_show_selector
  refine ⟨_, fd, ["metric", "matchers"], fn_ok F sc_show_selector (fun vs H Q E h => ?_) (fun cdv A outer s H vs Q E hr h => ?_), T.g_show_selector, F.kp, F.bindsN (fun _ _ _ _ _ _ us hl => match us, hl with | [_, _], _ => rfl)⟩
  · obtain ⟨_, _, _, _, rfl, _⟩ := h
    rfl
  obtain ⟨s0, b, ms, xs, rfl, hb, hms, hn, ok, q⟩ := h
  have hn2 := name_len hn
  refine ⟨_, (pss_cons (ps_if (pt_cmpR op_eq (pe_callB call_len' rfl T.z_len PySem.boot_len (pa_cons (pv 1) pa_nil)) pe_int (nomark _)) (pss_one (ps_ret (pv 0))) pss_nil)
    (pss_one (ps_ret (pe_op op_addS (pe_op op_addS (pe_op op_addS (pv 0) pe_str) (pe_join pe_str (pe_lc (own := [("matcher", 2)]) (g := gName 2) (tt := tYes) rfl sc_show_selector.nd (pi_tup (pv 1)) (blkOk_by (own := [("matcher", 2)]) (N := ["metric", "matchers", "matcher"]) (sc := defScope s_show_selector) (by decide +kernel)) (fun _ _ _ _ _ => (pg_name (i := 2) sc_show_selector.nd rfl (by first | exact Or.inl rfl | exact Or.inr rfl))) (fun _ _ _ _ _ => pts_nil) (fun _ _ _ _ _ => (pe_c G_show_matcher hr (by omega) rfl (pa_cons (pv 2) pa_nil)))))) pe_str)))), ?_⟩
  walk_at "w0"
  walk_at "w"
  refine i_rLen (.inr hb) ?_
  walk_at "w"
  have hxl := hms.len
  by_cases he : ms = []
  · subst he
    refine i_T (decide_eq_true (by rw [hxl]; rfl)) ?_
    walk_at "w"
    exact q H (Same.refl H)
  · have hl : ms.length ≠ 0 := fun e => he (List.eq_nil_of_length_eq_zero e)
    refine i_F (decide_eq_false (fun e => by have := V.int.inj e; omega)) ?_
    have hf := ok.few
    have hjl := mats_join ok
    have hsum := mats_sum ok
    walk_at "s"
    refine i_M1 ?_
    walk_at "s"
    refine ⟨⟨_, rfl⟩, i_lcT ?_⟩
    walk_at "s"
    refine i_lcTup (fun j H' y => ∃ m, ms[j]? = some m ∧ y = .str (showMat m)) hb (by omega) (fun _ _ _ _ _ h => h) (fun i x Hi R hx si hR => ?_) (fun D H' ys s' hD hl' hY => ?_)
    · obtain ⟨m, a1, b1, hm, rfl, h1, h2⟩ := hms.at_ hx
      walk_at "s"
      refine ⟨rfl, ?_⟩
      walk_at "s"
      exact ⟨a1, b1, m, rfl, Same.sqT si h1, Same.sqT si h2, ok.all m (List.mem_of_getElem? hm), fun H4 s4 => hR _ _ s4 ⟨m, hm, rfl⟩⟩
    · have e : ys = (ms.map showMat).map V.str := lc_known (Y := fun j y => ∃ m, ms[j]? = some m ∧ y = .str (showMat m)) (by rw [hl', hxl]; simp) hY fun j y hy => by
        obtain ⟨m, hm, rfl⟩ := hy
        rw [List.getElem?_map, List.getElem?_map, hm]
        rfl
      refine ⟨_, D, ms.map showMat, rfl, rfl, .inl (SqL.of (by rw [hD, e])), by rw [lit6]; omega, ?_⟩
      walk_at "s"
      cases ms with
      | nil => exact absurd rfl he
      | cons m mr => exact q H' s'
/-! show_aggregate -/
def spSAgg (K : PySem.W.Frag) : Sp := fun vs H Q _ => ∃ (s i : Str) (b : Addr) (ns : List Str), vs = [.str s, .ref b, .str i] ∧ SqT K H b (ns.map V.str) ∧ s.length ≤ 5 ∧ i.length ≤ 60000 ∧ (∀ n ∈ ns, NameOk n) ∧ ns.length ≤ 6 ∧ Q (.str (showAgg s ns i)) H
theorem sc_show_aggregate : FnScope (["word", "names", "inner"] : List Str) (["word", "names", "inner"] : List Str) (defScope s_show_aggregate) := ⟨rfl, rfl, rfl, by decide +kernel, rfl, by decide +kernel, by decide +kernel⟩
theorem k_show_aggregate (T : Txt w K mg) : Cal P w K mg base 1 "show_aggregate" (spSAgg K) := by
  obtain ⟨fd, F⟩ := T.d_show_aggregate
  refine ⟨_, fd, ["word", "names", "inner"], fn_ok F sc_show_aggregate (fun vs H Q E h => ?_) (fun cdv A outer s H vs Q E hr h => ?_), T.g_show_aggregate, F.kp, F.bindsN (fun _ _ _ _ _ _ us hl => match us, hl with | [_, _, _], _ => rfl)⟩
  · obtain ⟨_, _, _, _, rfl, _⟩ := h
    rfl
  obtain ⟨s0, i0, b, ns, rfl, hb, hs, hi, hn, hl, q⟩ := h
  refine ⟨_, (pss_cons (ps_if (pt_cmpR op_eq (pe_callB call_len' rfl T.z_len PySem.boot_len (pa_cons (pv 1) pa_nil)) pe_int (nomark _)) (pss_one (ps_ret (pe_op op_addS (pe_op op_addS (pe_op op_addS (pv 0) pe_str) (pv 2)) pe_str))) pss_nil)
    (pss_one (ps_ret (pe_op op_addS (pe_op op_addS (pe_op op_addS (pe_op op_addS (pe_op op_addS (pv 0) pe_str) (pe_join pe_str (pv 1))) pe_str) (pv 2)) pe_str)))), ?_⟩
  walk_at "w0"
  walk_at "w"
  refine i_rLen (.inr hb) ?_
  walk_at "w"
  by_cases he : ns = []
  · subst he
    refine i_T (decide_eq_true rfl) ?_
    walk_at "s"
    exact q
  · have hl0 : ns.length ≠ 0 := fun e => he (List.eq_nil_of_length_eq_zero e)
    refine i_F (decide_eq_false (fun e => by have := V.int.inj e; rw [List.length_map] at this; omega)) ?_
    have h1 := names_sum hn hl
    have h2 := names_join hn hl
    walk_at "s"
    refine i_M1 ?_
    walk_at "s"
    refine ⟨⟨_, rfl⟩, ?_⟩
    walk_at "s"
    refine ⟨_, b, ns, rfl, rfl, .inr hb, by rw [lit6]; omega, ?_⟩
    walk_at "s"
    cases ns with
    | nil => exact absurd rfl he
    | cons m mr => exact q
/-! show, show_side -/
def spShow (K : PySem.W.Frag) (n : Nat) : Sp := fun vs H Q _ => ∃ (e : Ex) (v : V), vs = [v] ∧ ER K H e v ∧ e.Ok ∧ e.size ≤ 40 ∧ e.depth < n ∧ ∀ H', Same H H' → Q (.str e.show) H'
def spSide (K : PySem.W.Frag) (n : Nat) : Sp := fun vs H Q _ => ∃ (e : Ex) (v : V) (l : Nat), vs = [v, .int l] ∧ ER K H e v ∧ e.Ok ∧ e.size ≤ 40 ∧ e.depth < n ∧ l ≤ 6 ∧ ∀ H', Same H H' → Q (.str (brk (decide (e.lev < l)) e.show)) H'
theorem sc_show_side : FnScope (["side", "least"] : List Str) (["side", "least"] : List Str) (defScope s_show_side) := ⟨rfl, rfl, rfl, by decide +kernel, rfl, by decide +kernel, by decide +kernel⟩
theorem k_side_of {n : Nat} (T : Txt w K mg) (G_show : Cal P w K mg base (2 * n + 1) "show" (spShow K n)) : Cal P w K mg base (2 * n + 2) "show_side" (spSide K n) := by
  obtain ⟨fd, F⟩ := T.d_show_side
  refine ⟨_, fd, ["side", "least"], fn_ok F sc_show_side (fun vs H Q E h => ?_) (fun cdv A outer s H vs Q E hr h => ?_), T.g_show_side, F.kp, F.bindsN (fun _ _ _ _ _ _ us hl => match us, hl with | [_, _], _ => rfl)⟩
  · obtain ⟨_, _, _, rfl, _⟩ := h
    rfl
  obtain ⟨e, v, l, rfl, he, ok, hz, hd, hl, q⟩ := h
  have hlen := show_len ok
  refine ⟨_, (pss_cons (ps_if (PW.pt (pw_and (pt_cmpR op_eq (pe_ix ix_tup (pv 0) pe_int (fun _ _ => rfl)) pe_str (nomark _)) (pw_and1 (pt_cmpR op_lt (pe_ix ix_kdict (pe_globR rfl T.g_STRENGTHS) (pe_ix ix_tup (pv 0) pe_int (fun _ _ => rfl)) (fun _ _ => rfl)) (pv 1) (nomark _))))) (pss_one (ps_ret (pe_op op_addS (pe_op op_addS pe_str (pe_c G_show hr (by omega) rfl (pa_cons (pv 0) pa_nil))) pe_str))) pss_nil)
    (pss_one (ps_ret (pe_c G_show hr (by omega) rfl (pa_cons (pv 0) pa_nil))))), ?_⟩
  have nb : brk (decide (6 < l)) e.show = e.show := by
    rw [show decide (6 < l) = false from decide_eq_false (by omega)]
    rfl
  walk_at "w0"
  walk_at "w"
  cases e with
  | num k =>
    obtain ⟨a, rfl, h1⟩ := he
    refine i_rIxT h1 atI_0 ?_
    walk_at "w"
    exact ⟨.num k, _, rfl, ⟨a, rfl, h1⟩, ok, hz, hd, fun H' s' => by rw [show ((Ex.num k).lev) = 6 from rfl, nb] at q; exact q H' s'⟩
  | latest m ms =>
    obtain ⟨a, b, xs, rfl, h1, h2, h3⟩ := he
    refine i_rIxT h1 atI_0 ?_
    walk_at "w"
    exact ⟨.latest m ms, _, rfl, ⟨a, b, xs, rfl, h1, h2, h3⟩, ok, hz, hd, fun H' s' => by rw [show ((Ex.latest m ms).lev) = 6 from rfl, nb] at q; exact q H' s'⟩
  | over o m ms k =>
    obtain ⟨a, b, xs, rfl, h1, h2, h3⟩ := he
    refine i_rIxT h1 atI_0 ?_
    walk_at "w"
    exact ⟨.over o m ms k, _, rfl, ⟨a, b, xs, rfl, h1, h2, h3⟩, ok, hz, hd, fun H' s' => by rw [show ((Ex.over o m ms k).lev) = 6 from rfl, nb] at q; exact q H' s'⟩
  | agg o ns i =>
    obtain ⟨a, b, x, rfl, h1, h2, h3⟩ := he
    refine i_rIxT h1 atI_0 ?_
    walk_at "w"
    exact ⟨.agg o ns i, _, rfl, ⟨a, b, x, rfl, h1, h2, h3⟩, ok, hz, hd, fun H' s' => by rw [show ((Ex.agg o ns i).lev) = 6 from rfl, nb] at q; exact q H' s'⟩
  | bin o x1 x2 =>
    obtain ⟨a, x, y, rfl, h1, h2, h3⟩ := he
    refine i_rIxT h1 atI_0 ?_
    walk_at "w"
    refine i_rIxT h1 atI_1 ?_
    refine i_rIxD (strength_at T o) ?_
    walk_at "w"
    by_cases hc : o.lev < l
    · refine i_T (decide_eq_true (by omega)) ?_
      walk_at "s"
      refine ⟨.bin o x1 x2, _, rfl, ⟨a, x, y, rfl, h1, h2, h3⟩, ok, hz, hd, fun H' s' => ?_⟩
      walk_at "s"
      have := q H' s'
      rw [show decide ((Ex.bin o x1 x2).lev < l) = true from decide_eq_true hc] at this
      exact this
    · refine i_F (decide_eq_false (by omega)) ?_
      walk_at "s"
      refine ⟨.bin o x1 x2, _, rfl, ⟨a, x, y, rfl, h1, h2, h3⟩, ok, hz, hd, fun H' s' => ?_⟩
      have := q H' s'
      rw [show decide ((Ex.bin o x1 x2).lev < l) = false from decide_eq_false hc] at this
      exact this
theorem log_small {n : Int} (h : n.natAbs < 1000000000000000) : n.natAbs.log2 < 1920 := by
  by_cases h0 : n.natAbs = 0
  · rw [h0]
    decide
  · rw [Nat.log2_lt h0]
    exact Nat.lt_of_lt_of_le h (Nat.le_trans (by decide : 1000000000000000 ≤ 2 ^ 50) (Nat.pow_le_pow_right (by decide) (by decide)))
theorem i_rStr {n : Int} {Q : VK} (h : n.natAbs < 1000000000000000) (q : Q (.str (Str.ofString (toString n))) H) : rStr [.int n] H Q := ⟨n, rfl, log_small h, q⟩
theorem sc_show : FnScope (["expression", "head", "selector", "strength", "left"] : List Str) (["expression"] : List Str) (defScope s_show) := ⟨rfl, rfl, rfl, by decide +kernel, rfl, by decide +kernel, by decide +kernel⟩
theorem k_show_of {n : Nat} (T : Txt w K mg) (G_show : Cal P w K mg base (2 * n + 1) "show" (spShow K n)) (G_show_side : Cal P w K mg base (2 * n + 2) "show_side" (spSide K n)) : Cal P w K mg base (2 * (n + 1) + 1) "show" (spShow K (n + 1)) := by
  have G_show_selector := k_show_selector (P := P) (base := base) T
  have G_show_aggregate := k_show_aggregate (P := P) (base := base) T
  obtain ⟨fd, F⟩ := T.d_show
  refine ⟨_, fd, ["expression"], fn_ok F sc_show (fun vs H Q E h => ?_) (fun cdv A outer s H vs Q E hr h => ?_), T.g_show, F.kp, F.bindsN (fun _ _ _ _ _ _ us hl => match us, hl with | [_], _ => rfl)⟩
  · obtain ⟨_, _, rfl, _⟩ := h
    rfl
  obtain ⟨e, v, rfl, he, ok, hz, hd, q⟩ := h
  refine ⟨_, (pss_cons (ps_set (i := 1) sc_show.nd rfl (by first | exact Or.inl rfl | exact Or.inr rfl) (pe_ix ix_tup (pv 0) pe_int (fun _ _ => rfl)))
    (pss_cons (ps_if (pt_cmpR op_eq (pv 1) pe_str (nomark _)) (pss_one (ps_ret (pe_callTy call_str' rfl T.z_str (by decide +kernel) (pa_cons (pe_ix ix_tup (pv 0) pe_int (fun _ _ => rfl)) pa_nil)))) pss_nil)
    (pss_cons (ps_if (pt_cmpR op_eq (pv 1) pe_str (nomark _)) (pss_one (ps_ret (pe_c G_show_selector hr (by omega) rfl (pa_cons (pe_ix ix_tup (pv 0) pe_int (fun _ _ => rfl)) (pa_cons (pe_ix ix_tup (pv 0) pe_int (fun _ _ => rfl)) pa_nil))))) pss_nil)
    (pss_cons (ps_if (pt_cmpR op_eq (pv 1) pe_str (nomark _)) (pss_cons (ps_set (i := 2) sc_show.nd rfl (by first | exact Or.inl rfl | exact Or.inr rfl) (pe_c G_show_selector hr (by omega) rfl (pa_cons (pe_ix ix_tup (pv 0) pe_int (fun _ _ => rfl)) (pa_cons (pe_ix ix_tup (pv 0) pe_int (fun _ _ => rfl)) pa_nil))))
    (pss_one (ps_ret (pe_op op_addS (pe_op op_addS (pe_op op_addS (pe_op op_addS (pe_op op_addS (pe_ix ix_tup (pv 0) pe_int (fun _ _ => rfl)) pe_str) (pv 2)) pe_str) (pe_callTy call_str' rfl T.z_str (by decide +kernel) (pa_cons (pe_ix ix_tup (pv 0) pe_int (fun _ _ => rfl)) pa_nil))) pe_str)))) pss_nil)
    (pss_cons (ps_if (pt_cmpR op_eq (pv 1) pe_str (nomark _)) (pss_one (ps_ret (pe_c G_show_aggregate hr (by omega) rfl (pa_cons (pe_ix ix_tup (pv 0) pe_int (fun _ _ => rfl)) (pa_cons (pe_ix ix_tup (pv 0) pe_int (fun _ _ => rfl)) (pa_cons (pe_c G_show hr (by omega) rfl (pa_cons (pe_ix ix_tup (pv 0) pe_int (fun _ _ => rfl)) pa_nil)) pa_nil)))))) pss_nil)
    (pss_cons (ps_set (i := 3) sc_show.nd rfl (by first | exact Or.inl rfl | exact Or.inr rfl) (pe_ix ix_kdict (pe_globR rfl T.g_STRENGTHS) (pe_ix ix_tup (pv 0) pe_int (fun _ _ => rfl)) (fun _ _ => rfl)))
    (pss_cons (ps_set (i := 4) sc_show.nd rfl (by first | exact Or.inl rfl | exact Or.inr rfl) (pe_c G_show_side hr (by omega) rfl (pa_cons (pe_ix ix_tup (pv 0) pe_int (fun _ _ => rfl)) (pa_cons (pv 3) pa_nil))))
    (pss_one (ps_ret (pe_op op_addS (pe_op op_addS (pe_op op_addS (pe_op op_addS (pv 4) pe_str) (pe_ix ix_tup (pv 0) pe_int (fun _ _ => rfl))) pe_str) (pe_c G_show_side hr (by omega) rfl (pa_cons (pe_ix ix_tup (pv 0) pe_int (fun _ _ => rfl)) (pa_cons (pe_op op_add (pv 3) pe_int) pa_nil))))))))))))), ?_⟩
  walk_at "w0"
  walk_at "w"
  cases e with
  | num k =>
    obtain ⟨a, rfl, h1⟩ := he
    refine i_rIxT h1 atI_0 ?_
    walk_at "w"
    refine i_rIxT h1 atI_1 ?_
    walk_at "w"
    refine i_rStr ok ?_
    exact q H (Same.refl H)
  | latest m ms =>
    obtain ⟨a, b, xs, rfl, h1, h2, h3⟩ := he
    refine i_rIxT h1 atI_0 ?_
    walk_at "w"
    refine i_rIxT h1 atI_1 ?_
    walk_at "w"
    refine i_rIxT h1 atI_2 ?_
    walk_at "w"
    exact ⟨m, b, ms, xs, rfl, h2, h3, ok.1, ok.2, q⟩
  | over o m ms k =>
    obtain ⟨a, b, xs, rfl, h1, h2, h3⟩ := he
    have g1 := showSel_len ok.1 ok.2.1
    have g2 := ow_len o
    have hk : k.natAbs < 1000000000000000 := by have := ok.2.2; omega
    have g3 := int_len hk
    refine i_rIxT h1 atI_0 ?_
    walk_at "w"
    refine i_rIxT h1 atI_2 ?_
    walk_at "w"
    refine i_rIxT h1 atI_3 ?_
    walk_at "w"
    refine ⟨m, b, ms, xs, rfl, h2, h3, ok.1, ok.2.1, fun H' s' => ?_⟩
    walk_at "s"
    refine i_rIxT (Same.sqT s' h1) atI_1 ?_
    walk_at "s"
    refine i_rIxT (Same.sqT s' h1) atI_4 ?_
    walk_at "s"
    refine i_rStr hk ?_
    walk_at "s"
    exact q H' s'
  | agg o ns i =>
    obtain ⟨a, b, x, rfl, h1, h2, h3⟩ := he
    have g1 := show_len ok.2.2
    have g2 := aw_len o
    have hz2 : i.size + 1 ≤ 40 := hz
    have hd2 : i.depth + 1 < n + 1 := hd
    refine i_rIxT h1 atI_0 ?_
    walk_at "w"
    refine i_rIxT h1 atI_1 ?_
    walk_at "w"
    refine i_rIxT h1 atI_2 ?_
    walk_at "w"
    refine i_rIxT h1 atI_3 ?_
    walk_at "w"
    refine ⟨i, x, rfl, h3, ok.2.2, by omega, by omega, fun H' s' => ?_⟩
    walk_at "w"
    exact ⟨o.str, i.show, b, ns, rfl, Same.sqT s' h2, g2, by omega, ok.1, ok.2.1, q H' s'⟩
  | bin o x1 x2 =>
    obtain ⟨a, x, y, rfl, h1, h2, h3⟩ := he
    have hz2 : x1.size + x2.size + 1 ≤ 40 := hz
    have hd2 : max x1.depth x2.depth + 1 < n + 1 := hd
    have g1 := show_len ok.1
    have g2 := show_len ok.2
    have g3 := op_len o
    have g4 := brk_len (decide (x1.lev < o.lev)) x1.show
    have g5 := brk_len (decide (x2.lev < o.lev + 1)) x2.show
    have g6 : o.lev ≤ 5 := by cases o <;> decide
    refine i_rIxT h1 atI_0 ?_
    walk_at "w"
    refine i_rIxT h1 atI_1 ?_
    refine i_rIxD (strength_at T o) ?_
    walk_at "w"
    refine i_rIxT h1 atI_2 ?_
    walk_at "w"
    refine ⟨x1, x, o.lev, rfl, h2, ok.1, by omega, by omega, by omega, fun H' s' => ?_⟩
    walk_at "s"
    refine i_rIxT (Same.sqT s' h1) atI_1 ?_
    walk_at "s"
    refine i_rIxT (Same.sqT s' h1) atI_3 ?_
    walk_at "s"
    refine ⟨x2, y, o.lev + 1, rfl, ER.mono (Same.tup s') h3, ok.2, by omega, by omega, by omega, fun H2 s2 => ?_⟩
    walk_at "s"
    exact q H2 (s'.trans s2)
theorem k_show_zero (T : Txt w K mg) : Cal P w K mg base 1 "show" (spShow K 0) := by
  obtain ⟨fd, F⟩ := T.d_show
  refine ⟨_, fd, ["expression"], fn_ok F sc_show (fun vs H Q E h => ?_) (fun cdv A outer s H vs Q E hr h => ?_), T.g_show, F.kp, F.bindsN (fun _ _ _ _ _ _ us hl => match us, hl with | [_], _ => rfl)⟩
  · obtain ⟨_, _, rfl, _⟩ := h
    rfl
  obtain ⟨_, _, _, _, _, _, h, _⟩ := h
  exact absurd h (Nat.not_lt_zero _)
theorem k_show (T : Txt w K mg) : ∀ n, Cal P w K mg base (2 * n + 1) "show" (spShow K n)
  | 0 => k_show_zero T
  | n + 1 => k_show_of T (k_show T n) (k_side_of T (k_show T n))
end
end Wf


set_option Elab.async false
set_option linter.all false
set_option maxRecDepth 100000
set_option maxHeartbeats 4000000
namespace Wf
open PySem PySem.Spec PyProof.Rows L2
open C8 (pe_gc)
local macro_rules | `(tactic| walk_at "w1") => `(tactic| first
  | with_reducible refine i_seq ?_
  | with_reducible refine i_asg ?_
  | with_reducible refine i_gname ?_
  | ((with_reducible refine' i_var ?ivar ?imain); (case ivar => exact rfl))
  | with_reducible refine i_c ?_
  | with_reducible refine i_op ?_
  | with_reducible refine i_if ?_
  | with_reducible refine i_test ?_
  | with_reducible refine i_tB ?_
  | with_reducible refine i_bl ?_
  | with_reducible refine i_ret ?_
  | with_reducible refine i_retN ?_
  | with_reducible refine i_drop ?_
  | with_reducible refine i_next ?_
  | with_reducible refine i_cons ?_
  | with_reducible refine i_nil ?_
  | with_reducible refine i_cb ?_
  | with_reducible refine i_tup ?_
  | with_reducible refine i_lst ?_
  | with_reducible refine i_fld ?_
  | with_reducible refine i_sfld ?_
  | with_reducible refine i_call ?_
  | with_reducible refine i_meth ?_
  | with_reducible refine i_and ?_
  | with_reducible refine i_or ?_
  | with_reducible refine i_not ?_
  | with_reducible refine i_andV ?_
  | with_reducible refine i_orV ?_
  | with_reducible refine i_notV ?_
  | with_reducible refine i_ifV ?_
  | with_reducible refine i_un ?_
  | with_reducible refine i_neg ?_
  | with_reducible refine i_gcons ?_
  | with_reducible refine i_sl ?_
  | with_reducible refine i_part ?_
  | with_reducible refine i_nopart ?_
  | with_reducible refine i_int ?_
  | with_reducible refine i_inS ?_
  | with_reducible refine i_notInS ?_
  | with_reducible refine i_tyS ?_
  | with_reducible refine i_forL ?_
  | with_reducible refine i_forT ?_
  | with_reducible refine i_forR1 ?_
  | with_reducible refine i_bm ?_
  | with_reducible refine i_bm0 ?_
  | with_reducible refine i_gnil ?_
  | with_reducible refine i_rI0 ?_
  | with_reducible refine i_rIsN ?_
  | with_reducible refine i_rNotN ?_
  | with_reducible refine i_rInt ?_
  | ((with_reducible refine i_rEq ?isc ?imain); (case isc => exact rfl))
  | ((with_reducible refine i_rNe ?isc ?imain); (case isc => exact rfl))
  | with_reducible refine i_T rfl ?_
  | with_reducible refine i_F rfl ?_
  | ((refine' i_T ?icnd ?imain); (case icnd => decide +kernel))
  | ((refine' i_F ?icnd ?imain); (case icnd => decide +kernel))
  | fail)
local macro_rules | `(tactic| walk_at "w") => `(tactic| (repeat' walk_at "w1"))
local macro_rules | `(tactic| walk_at "w0") => `(tactic| (simp only [cxOf, L2.start, List.map_cons, List.map_nil, List.length_cons, List.length_nil, Nat.reduceAdd, Nat.reduceSub, Nat.zero_add, List.replicate_zero, List.replicate_succ, List.cons_append, List.nil_append]))
local macro_rules | `(tactic| walk_at "tk") => `(tactic| (simp only [Tk.sign, Tk.val]))
local macro_rules | `(tactic| walk_at "c") => `(tactic| (dsimp only [List.set_cons_zero, List.set_cons_succ, List.cons_append, List.nil_append]))

section
variable {P : Program} {w : World} {K : PySem.W.Frag} {mg : Str → Option Value} {base : Heap} {H0 Hb H H' : Hp}
def LstQ (xs : List V) (H1 : Hp) (Q : VK) : Prop := xs.length ≤ sizeLine ∧ ∀ p, H1 p = none → Q (.ref p) (upd H1 p (.lst xs))
def TupQ (xs : List V) (H1 : Hp) (Q : VK) : Prop := xs.length ≤ sizeLine ∧ ∀ p, H1 p = none → Q (.ref p) (upd H1 p (.tup xs))
theorem i_lst2 {tl : TA} {σ : L2.St} {Q : VK} (h : tl σ H fun xs H1 => LstQ xs H1 Q) : tLst tl σ H Q := h
theorem i_tup2 {tl : TA} {σ : L2.St} {Q : VK} (h : tl σ H fun xs H1 => TupQ xs H1 Q) : tTup tl σ H Q := h
theorem i_LstQ {xs : List V} {Q : VK} (hz : xs.length ≤ 100000) (h : ∀ p H2, H p = none → Same H H2 → H2 p = some (.lst xs) → Q (.ref p) H2) : LstQ xs H Q := ⟨le_line hz, fun p hp => h p _ hp (same_new hp _) upd_same⟩
theorem i_TupQ {xs : List V} {Q : VK} (hz : xs.length ≤ 100000) (h : ∀ p H2, H p = none → Same H H2 → SqT K H2 p xs → Q (.ref p) H2) : TupQ xs H Q := ⟨le_line hz, fun p hp => h p _ hp (same_new hp _) (SqT.of upd_same)⟩
theorem i_enum {a : Addr} {xs : List V} {g : TG} {t : TS} {D : Ends} {σ : L2.St} (Pv : Nat → L2.St → Hp → Prop) (h0 : Pv 0 σ H) (hl : ∀ i σ H, i ≤ xs.length → Pv i σ H → SqL K H a xs)
    (hs : ∀ i x σ H u H', xs[i]? = some x → Pv i σ H → Same H H' → SqT K H' u [.int (i : Nat), x] → g (.ref u) σ H' fun σ2 H2 => t { D with nx := Pv (i + 1), ct := Pv (i + 1), bk := D.nx } σ2 H2) (hd : ∀ σ H, Pv xs.length σ H → D.nx σ H) :
    ForW (Ite K a) g t D σ H := by
  refine ⟨fun i m σ H => m = xs.length - i ∧ i ≤ xs.length ∧ Pv i σ H, ⟨xs.length, by simp, Nat.zero_le _, h0⟩, ?_⟩
  rintro i m σ H ⟨rfl, hi, p⟩
  have q := hl i σ H hi p
  by_cases hlt : i < xs.length
  · refine .inr ⟨⟨xs, xs[i], q, by simp [hlt]⟩, Pv (i + 1), fun σ' H' p' => ⟨xs.length - (i + 1), by omega, rfl, hlt, p'⟩, fun x H' y => ?_⟩
    obtain ⟨u, x', rfl, hn, rfl, hx⟩ := y
    exact hs i x' σ H u _ (hx xs q) p (same_new hn _) (SqT.of upd_same)
  · have e : i = xs.length := by omega
    subst e
    exact .inl ⟨⟨xs, q, Nat.le_refl _⟩, hd σ H p⟩
theorem i_forE {ta : TA} {g : TG} {t : TS} {D : Ends} {σ : L2.St} (h : ta σ H fun vs H1 => ∃ a xs, vs = [.ref a] ∧ SqL K H1 a xs ∧ ForW (Ite K a) g t D σ H1) : tFor (iEnum K ta) g t D σ H := h
theorem i_mod {f : Int → Int → V} {m n : Int} {Q : VK} (c : 0 < n) (h : Q (f m n) H) : rI (fun _ j => 0 < j) f (.int m) (.int n) H Q := i_rI c h
theorem i_div {f : Int → Int → V} {m n : Int} {Q : VK} (c : 0 < n ∧ n < 1073741824) (h : Q (f m n) H) : rI CDiv f (.int m) (.int n) H Q := i_rI c h
theorem i_mulR {f : Int → Int → V} {m n : Int} {Q : VK} (c : -(2 ^ 64) < n ∧ n < 2 ^ 64) (h : Q (f m n) H) : rI CMul f (.int m) (.int n) H Q := i_rI (.inr c) h
theorem i_mulL {f : Int → Int → V} {m n : Int} {Q : VK} (c : -(2 ^ 64) < m ∧ m < 2 ^ 64) (h : Q (f m n) H) : rI CMul f (.int m) (.int n) H Q := i_rI (.inl c) h
theorem i_pow {f : Int → Int → V} {m n : Int} {Q : VK} (c : 0 ≤ n ∧ n ≤ 1000000 ∧ m.natAbs < 2 ^ 64) (h : Q (f m n) H) : rI CPow f (.int m) (.int n) H Q := i_rI c h
/-- branches that go on at one place -/
theorem i_ifN {c : Bool} {t u : TS} {D : Ends} {σ : L2.St} (Pv : L2.St → Hp → Prop) (h2 : ∀ σ H, Pv σ H → D.nx σ H) (h1 : ∀ N : L2.St → Hp → Prop, (∀ σ H, Pv σ H → N σ H) → if c = true then t { D with nx := N } σ H else u { D with nx := N } σ H) :
    if c = true then t D σ H else u D σ H := h1 D.nx h2
theorem i_seqC {t u : TS} {D : Ends} {σ : L2.St} (Pv : L2.St → Hp → Prop) (h2 : ∀ σ H, Pv σ H → u D σ H) (h1 : ∀ N : L2.St → Hp → Prop, (∀ σ H, Pv σ H → N σ H) → t { D with nx := N } σ H) : tSeq t u D σ H := h1 (u D) h2
end
end Wf


set_option Elab.async false
set_option linter.all false
set_option maxRecDepth 100000
set_option maxHeartbeats 4000000
namespace Wf
open PySem PySem.Spec PyProof.Rows L2
open C8 (pe_gc)
local macro_rules | `(tactic| walk_at "w1") => `(tactic| first
  | with_reducible refine i_seq ?_
  | with_reducible refine i_asg ?_
  | with_reducible refine i_gname ?_
  | ((with_reducible refine' i_var ?ivar ?imain); (case ivar => exact rfl))
  | with_reducible refine i_c ?_
  | with_reducible refine i_op ?_
  | with_reducible refine i_if ?_
  | with_reducible refine i_test ?_
  | with_reducible refine i_tB ?_
  | with_reducible refine i_bl ?_
  | with_reducible refine i_ret ?_
  | with_reducible refine i_retN ?_
  | with_reducible refine i_drop ?_
  | with_reducible refine i_next ?_
  | with_reducible refine i_cons ?_
  | with_reducible refine i_nil ?_
  | with_reducible refine i_cb ?_
  | with_reducible refine i_tup ?_
  | with_reducible refine i_lst ?_
  | with_reducible refine i_fld ?_
  | with_reducible refine i_sfld ?_
  | with_reducible refine i_call ?_
  | with_reducible refine i_meth ?_
  | with_reducible refine i_and ?_
  | with_reducible refine i_or ?_
  | with_reducible refine i_not ?_
  | with_reducible refine i_andV ?_
  | with_reducible refine i_orV ?_
  | with_reducible refine i_notV ?_
  | with_reducible refine i_ifV ?_
  | with_reducible refine i_un ?_
  | with_reducible refine i_neg ?_
  | with_reducible refine i_gcons ?_
  | with_reducible refine i_sl ?_
  | with_reducible refine i_part ?_
  | with_reducible refine i_nopart ?_
  | with_reducible refine i_int ?_
  | with_reducible refine i_inS ?_
  | with_reducible refine i_notInS ?_
  | with_reducible refine i_tyS ?_
  | with_reducible refine i_forL ?_
  | with_reducible refine i_forT ?_
  | with_reducible refine i_forR1 ?_
  | with_reducible refine i_bm ?_
  | with_reducible refine i_bm0 ?_
  | with_reducible refine i_gnil ?_
  | with_reducible refine i_rI0 ?_
  | with_reducible refine i_rIsN ?_
  | with_reducible refine i_rNotN ?_
  | with_reducible refine i_rInt ?_
  | ((with_reducible refine i_rEq ?isc ?imain); (case isc => exact rfl))
  | ((with_reducible refine i_rNe ?isc ?imain); (case isc => exact rfl))
  | with_reducible refine i_T rfl ?_
  | with_reducible refine i_F rfl ?_
  | ((refine' i_T ?icnd ?imain); (case icnd => decide +kernel))
  | ((refine' i_F ?icnd ?imain); (case icnd => decide +kernel))
  | fail)
local macro_rules | `(tactic| walk_at "w") => `(tactic| (repeat' walk_at "w1"))
local macro_rules | `(tactic| walk_at "w0") => `(tactic| (simp only [cxOf, L2.start, List.map_cons, List.map_nil, List.length_cons, List.length_nil, Nat.reduceAdd, Nat.reduceSub, Nat.zero_add, List.replicate_zero, List.replicate_succ, List.cons_append, List.nil_append]))
local macro_rules | `(tactic| walk_at "tk") => `(tactic| (simp only [Tk.sign, Tk.val]))
local macro_rules | `(tactic| walk_at "c") => `(tactic| (dsimp only [List.set_cons_zero, List.set_cons_succ, List.cons_append, List.nil_append]))

local macro_rules | `(tactic| walk_at "len") => `(tactic| (refine le_line ?_; (try simp only [str_app, lit1, lit2, lit3, lit4, lit5, lit6, lit7, lit8, lit9, lit10, lit11, lit12, lit13, lit14, lit15, lit16, lit17, lit18]); omega))
local macro_rules | `(tactic| walk_at "s1") => `(tactic| first
  | walk_at "w1"
  | (refine i_rAddS (by walk_at "len") ?_)
  | fail)
local macro_rules | `(tactic| walk_at "s") => `(tactic| (repeat' walk_at "s1"))
local macro_rules | `(tactic| walk_at "l1") => `(tactic| first
  | with_reducible refine i_lst2 ?_
  | with_reducible refine i_tup2 ?_
  | with_reducible refine i_mod (by decide) ?_
  | with_reducible refine i_div ⟨by decide, by decide⟩ ?_
  | with_reducible refine i_mulR ⟨by decide, by decide⟩ ?_
  | with_reducible refine i_mulL ⟨by decide, by decide⟩ ?_
  | with_reducible refine i_pow ⟨by decide, by decide, by decide⟩ ?_
  | with_reducible refine i_lcT ?_
  | with_reducible refine i_lcL ?_
  | with_reducible refine i_lcR ?_
  | with_reducible refine i_M1 ?_
  | walk_at "w1"
  | (refine i_rAddS (by walk_at "len") ?_)
  | fail)
local macro_rules | `(tactic| walk_at "l") => `(tactic| (repeat' walk_at "l1"))

section
variable {P : Program} {w : World} {K : PySem.W.Frag} {mg : Str → Option Value} {base : Heap} {H0 Hb H H' : Hp}
/-! _law_strength -/
def signsL : List (List Str) := [["or"], ["and", "unless"], ["<", "<=", ">", ">=", "==", "!="], ["+", "-"], ["*"]]
theorem sign_at (o : Op) : ∀ i l, signsL[i]? = some l → inV (.str o.str) (l.map V.str) = decide (o.lev = i + 1)
  | 0, l, h => by cases h; cases o <;> decide +kernel
  | 1, l, h => by cases h; cases o <;> decide +kernel
  | 2, l, h => by cases h; cases o <;> decide +kernel
  | 3, l, h => by cases h; cases o <;> decide +kernel
  | 4, l, h => by cases h; cases o <;> decide +kernel
  | i + 5, l, h => by cases h
theorem all_flat (l : List Str) : (l.map V.str).all flatV = true := by
  induction l with
  | nil => rfl
  | cons x l ih => exact ih
def spStr (K : PySem.W.Frag) : Sp := fun vs H Q _ => ∃ (e : Ex) (v : V), vs = [v] ∧ ER K H e v ∧ ∀ H', Same H H' → Q (.int e.lev) H'
theorem sc__law_strength : FnScope (["_law_expression_here", "_law_level", "_law_signs"] : List Str) (["_law_expression_here"] : List Str) (defScope s__law_strength) := ⟨rfl, rfl, rfl, by decide +kernel, rfl, by decide +kernel, by decide +kernel⟩
theorem k_law_strength (T : Txt w K mg) : Cal P w K mg base 1 "_law_strength" (spStr K) := by
  obtain ⟨fd, F⟩ := T.d__law_strength
  refine ⟨_, fd, ["_law_expression_here"], fn_ok F sc__law_strength (fun vs H Q E h => ?_) (fun cdv A outer s H vs Q E hr h => ?_), T.g__law_strength, F.kp, F.bindsN (fun _ _ _ _ _ _ us hl => match us, hl with | [_], _ => rfl)⟩
  · obtain ⟨_, _, rfl, _⟩ := h
    rfl
  obtain ⟨e, v, rfl, he, q⟩ := h
  refine ⟨_, (pss_cons (ps_if (pt_cmpR op_ne (pe_ix ix_tup (pv 0) pe_int (fun _ _ => rfl)) pe_str (nomark _)) (pss_one (ps_ret pe_int)) pss_nil)
    (pss_cons (ps_for PassesOwn.never rfl (pi_enum (by rfl) T.z_enumerate (pa_cons (pe_lst (pa_cons (pe_lst (pa_cons pe_str pa_nil)) (pa_cons (pe_lst (pa_cons pe_str (pa_cons pe_str pa_nil))) (pa_cons (pe_lst (pa_cons pe_str (pa_cons pe_str (pa_cons pe_str (pa_cons pe_str (pa_cons pe_str (pa_cons pe_str pa_nil))))))) (pa_cons (pe_lst (pa_cons pe_str (pa_cons pe_str pa_nil))) (pa_cons (pe_lst (pa_cons pe_str pa_nil)) pa_nil)))))) pa_nil)) (pg_tup (by rfl) (pgs_cons (pg_name (i := 1) sc__law_strength.nd rfl (by first | exact Or.inl rfl | exact Or.inr rfl)) (pgs_cons (pg_name (i := 2) sc__law_strength.nd rfl (by first | exact Or.inl rfl | exact Or.inr rfl)) pgs_nil))) (pss_one (ps_if (pt_cmpR op_in_seq (pe_ix ix_tup (pv 0) pe_int (fun _ _ => rfl)) (pv 2) rfl) (pss_one (ps_ret (pe_op op_add (pv 1) pe_int))) pss_nil)))
    (pss_one (ps_ret pe_int)))), ?_⟩
  walk_at "w0"
  walk_at "w"
  cases e with
  | num k =>
    obtain ⟨a, rfl, h1⟩ := he
    refine i_rIxT h1 atI_0 ?_
    walk_at "w"
    exact q H (Same.refl H)
  | latest m ms =>
    obtain ⟨a, b, xs, rfl, h1, h2, h3⟩ := he
    refine i_rIxT h1 atI_0 ?_
    walk_at "w"
    exact q H (Same.refl H)
  | over o m ms k =>
    obtain ⟨a, b, xs, rfl, h1, h2, h3⟩ := he
    refine i_rIxT h1 atI_0 ?_
    walk_at "w"
    exact q H (Same.refl H)
  | agg o ns i =>
    obtain ⟨a, b, x, rfl, h1, h2, h3⟩ := he
    refine i_rIxT h1 atI_0 ?_
    walk_at "w"
    exact q H (Same.refl H)
  | bin o x1 x2 =>
    obtain ⟨a, x, y, rfl, h1, h2, h3⟩ := he
    refine i_rIxT h1 atI_0 ?_
    walk_at "w"
    refine i_forE ?_
    walk_at "l"
    refine i_LstQ (by simp) fun l0 G0 n0 s0 e0 => ?_
    walk_at "l"
    refine i_LstQ (by simp) fun l1 G1 n1 s1 e1 => ?_
    walk_at "l"
    refine i_LstQ (by simp) fun l2 G2 n2 s2 e2 => ?_
    walk_at "l"
    refine i_LstQ (by simp) fun l3 G3 n3 s3 e3 => ?_
    walk_at "l"
    refine i_LstQ (by simp) fun l4 G4 n4 s4 e4 => ?_
    walk_at "l"
    refine i_LstQ (by simp) fun l5 G5 n5 s5 e5 => ?_
    walk_at "l"
    have S45 := s5
    have S35 := s4.trans S45
    have S25 := s3.trans S35
    have S15 := s2.trans S25
    have S05 := s1.trans S15
    have hs : ∀ (i : Nat) (v : V) (H2 : Hp), [V.ref l0, .ref l1, .ref l2, .ref l3, .ref l4][i]? = some v → Same G5 H2 → ∃ (p : Addr) (l : List Str), v = .ref p ∧ signsL[i]? = some l ∧ H2 p = some (.lst (l.map V.str)) := by
      intro i v H2 hi hs
      match i, hi with
      | 0, hi => cases hi; exact ⟨_, _, rfl, rfl, hs _ _ (S05 _ _ e0)⟩
      | 1, hi => cases hi; exact ⟨_, _, rfl, rfl, hs _ _ (S15 _ _ e1)⟩
      | 2, hi => cases hi; exact ⟨_, _, rfl, rfl, hs _ _ (S25 _ _ e2)⟩
      | 3, hi => cases hi; exact ⟨_, _, rfl, rfl, hs _ _ (S35 _ _ e3)⟩
      | 4, hi => cases hi; exact ⟨_, _, rfl, rfl, hs _ _ (S45 _ _ e4)⟩
    have S5 : Same H G5 := s0.trans S05
    refine ⟨l5, _, rfl, SqL.of e5, i_enum (xs := [V.ref l0, .ref l1, .ref l2, .ref l3, .ref l4]) (fun i σ H2 => ∃ (x1 x2 : Option V), σ = [some (.ref a), x1, x2] ∧ Same G5 H2 ∧ i < o.lev) ⟨none, none, rfl, Same.refl _, by cases o <;> decide⟩ (fun i σ H2 _ ⟨_, _, _, s6, _⟩ => SqL.of (s6 _ _ e5)) ?_ ?_⟩
    · rintro i v σ H2 u H3 hv ⟨y1, y2, rfl, s6, hi⟩ s7 hu
      obtain ⟨p, l, rfl, hl, hp⟩ := hs i v H3 hv (s6.trans s7)
      have S := S5.trans (s6.trans s7)
      refine i_gtup hu rfl ?_
      walk_at "w"
      refine i_rIxT (Same.sqT S h1) atI_1 ?_
      walk_at "w"
      refine i_rIn (.inl (SqL.of hp)) rfl (all_flat l) ?_
      rw [if_neg Bool.false_ne_true, sign_at o i l hl]
      refine ⟨_, rfl, ?_⟩
      by_cases hc : o.lev = i + 1
      · refine i_T (decide_eq_true hc) ?_
        walk_at "w"
        have := q H3 S
        rw [show ((Ex.bin o x1 x2).lev : Int) = (i : Int) + 1 from by show (o.lev : Int) = _; omega] at this
        exact this
      · refine i_F (decide_eq_false hc) ?_
        walk_at "w"
        exact ⟨_, _, rfl, s6.trans s7, by omega⟩
    · rintro σ H2 ⟨y1, y2, rfl, s6, hi⟩
      have : o.lev ≤ 5 := by cases o <;> decide
      simp only [List.length_cons, List.length_nil] at hi
      omega
end
end Wf


set_option Elab.async false
set_option linter.all false
set_option maxRecDepth 100000
set_option maxHeartbeats 4000000
namespace Wf
open PySem PySem.Spec PyProof.Rows L2
open C8 (pe_gc)
local macro_rules | `(tactic| walk_at "w1") => `(tactic| first
  | with_reducible refine i_seq ?_
  | with_reducible refine i_asg ?_
  | with_reducible refine i_gname ?_
  | ((with_reducible refine' i_var ?ivar ?imain); (case ivar => exact rfl))
  | with_reducible refine i_c ?_
  | with_reducible refine i_op ?_
  | with_reducible refine i_if ?_
  | with_reducible refine i_test ?_
  | with_reducible refine i_tB ?_
  | with_reducible refine i_bl ?_
  | with_reducible refine i_ret ?_
  | with_reducible refine i_retN ?_
  | with_reducible refine i_drop ?_
  | with_reducible refine i_next ?_
  | with_reducible refine i_cons ?_
  | with_reducible refine i_nil ?_
  | with_reducible refine i_cb ?_
  | with_reducible refine i_tup ?_
  | with_reducible refine i_lst ?_
  | with_reducible refine i_fld ?_
  | with_reducible refine i_sfld ?_
  | with_reducible refine i_call ?_
  | with_reducible refine i_meth ?_
  | with_reducible refine i_and ?_
  | with_reducible refine i_or ?_
  | with_reducible refine i_not ?_
  | with_reducible refine i_andV ?_
  | with_reducible refine i_orV ?_
  | with_reducible refine i_notV ?_
  | with_reducible refine i_ifV ?_
  | with_reducible refine i_un ?_
  | with_reducible refine i_neg ?_
  | with_reducible refine i_gcons ?_
  | with_reducible refine i_sl ?_
  | with_reducible refine i_part ?_
  | with_reducible refine i_nopart ?_
  | with_reducible refine i_int ?_
  | with_reducible refine i_inS ?_
  | with_reducible refine i_notInS ?_
  | with_reducible refine i_tyS ?_
  | with_reducible refine i_forL ?_
  | with_reducible refine i_forT ?_
  | with_reducible refine i_forR1 ?_
  | with_reducible refine i_bm ?_
  | with_reducible refine i_bm0 ?_
  | with_reducible refine i_gnil ?_
  | with_reducible refine i_rI0 ?_
  | with_reducible refine i_rIsN ?_
  | with_reducible refine i_rNotN ?_
  | with_reducible refine i_rInt ?_
  | ((with_reducible refine i_rEq ?isc ?imain); (case isc => exact rfl))
  | ((with_reducible refine i_rNe ?isc ?imain); (case isc => exact rfl))
  | with_reducible refine i_T rfl ?_
  | with_reducible refine i_F rfl ?_
  | ((refine' i_T ?icnd ?imain); (case icnd => decide +kernel))
  | ((refine' i_F ?icnd ?imain); (case icnd => decide +kernel))
  | fail)
local macro_rules | `(tactic| walk_at "w") => `(tactic| (repeat' walk_at "w1"))
local macro_rules | `(tactic| walk_at "w0") => `(tactic| (simp only [cxOf, L2.start, List.map_cons, List.map_nil, List.length_cons, List.length_nil, Nat.reduceAdd, Nat.reduceSub, Nat.zero_add, List.replicate_zero, List.replicate_succ, List.cons_append, List.nil_append]))
local macro_rules | `(tactic| walk_at "tk") => `(tactic| (simp only [Tk.sign, Tk.val]))
local macro_rules | `(tactic| walk_at "c") => `(tactic| (dsimp only [List.set_cons_zero, List.set_cons_succ, List.cons_append, List.nil_append]))

local macro_rules | `(tactic| walk_at "len") => `(tactic| (refine le_line ?_; (try simp only [str_app, lit1, lit2, lit3, lit4, lit5, lit6, lit7, lit8, lit9, lit10, lit11, lit12, lit13, lit14, lit15, lit16, lit17, lit18]); omega))
local macro_rules | `(tactic| walk_at "s1") => `(tactic| first
  | walk_at "w1"
  | (refine i_rAddS (by walk_at "len") ?_)
  | fail)
local macro_rules | `(tactic| walk_at "s") => `(tactic| (repeat' walk_at "s1"))
local macro_rules | `(tactic| walk_at "l1") => `(tactic| first
  | with_reducible refine i_lst2 ?_
  | with_reducible refine i_tup2 ?_
  | with_reducible refine i_mod (by decide) ?_
  | with_reducible refine i_div ⟨by decide, by decide⟩ ?_
  | with_reducible refine i_mulR ⟨by decide, by decide⟩ ?_
  | with_reducible refine i_mulL ⟨by decide, by decide⟩ ?_
  | with_reducible refine i_pow ⟨by decide, by decide, by decide⟩ ?_
  | with_reducible refine i_lcT ?_
  | with_reducible refine i_lcL ?_
  | with_reducible refine i_lcR ?_
  | with_reducible refine i_M1 ?_
  | walk_at "w1"
  | (refine i_rAddS (by walk_at "len") ?_)
  | fail)
local macro_rules | `(tactic| walk_at "l") => `(tactic| (repeat' walk_at "l1"))

section
variable {P : Program} {w : World} {K : PySem.W.Frag} {mg : Str → Option Value} {base : Heap} {H0 Hb H H' : Hp}
theorem qt1 : ("=" : Str) ++ ("\"" : Str) = ("=\"" : Str) := by decide +kernel
theorem qt2 : ("!=" : Str) ++ ("\"" : Str) = ("!=\"" : Str) := by decide +kernel
theorem qt3 (a : Str) : a ++ ("=" : Str) ++ ("\"" : Str) = a ++ ("=\"" : Str) := by rw [Str.append_assoc, qt1]
theorem qt4 (a : Str) : a ++ ("!=" : Str) ++ ("\"" : Str) = a ++ ("!=\"" : Str) := by rw [Str.append_assoc, qt2]
theorem sc__law_matcher : FnScope (["_law_matcher_here", "_law_name_here", "_law_values", "_law_inside", "_law_worth_here"] : List Str) (["_law_matcher_here"] : List Str) (defScope s__law_matcher) := ⟨rfl, rfl, rfl, by decide +kernel, rfl, by decide +kernel, by decide +kernel⟩
theorem k_law_matcher (T : Txt w K mg) : Cal P w K mg base 1 "_law_matcher" (spMat K) := by
  obtain ⟨fd, F⟩ := T.d__law_matcher
  refine ⟨_, fd, ["_law_matcher_here"], fn_ok F sc__law_matcher (fun vs H Q E h => ?_) (fun cdv A outer s H vs Q E hr h => ?_), T.g__law_matcher, F.kp, F.bindsN (fun _ _ _ _ _ _ us hl => match us, hl with | [_], _ => rfl)⟩
  · obtain ⟨_, _, _, rfl, _⟩ := h
    rfl
  obtain ⟨a, b, ⟨nm, vals, ins⟩, rfl, ha, hb, ok, q⟩ := h
  have hn : nm.length ≤ 20 := name_len ok.name.1
  have hvs : ∀ v ∈ vals, v.length ≤ 20 := fun v hv => worth_len (ok.vals v hv)
  have hf : vals.length ≤ 6 := ok.few
  replace hb : SqT K H b (vals.map V.str) := hb
  refine ⟨_, (pss_cons (ps_asg (pv 0) (pg_tup (by rfl) (pgs_cons (pg_name (i := 1) sc__law_matcher.nd rfl (by first | exact Or.inl rfl | exact Or.inr rfl)) (pgs_cons (pg_name (i := 2) sc__law_matcher.nd rfl (by first | exact Or.inl rfl | exact Or.inr rfl)) (pgs_cons (pg_name (i := 3) sc__law_matcher.nd rfl (by first | exact Or.inl rfl | exact Or.inr rfl)) pgs_nil)))))
    (pss_cons (ps_if (pt_cmpR op_eq (pe_callB call_len' rfl T.z_len PySem.boot_len (pa_cons (pv 2) pa_nil)) pe_int (nomark _)) (pss_one (ps_ret (pe_op op_addS (pe_op op_addS (pe_op op_addS (pe_op op_addS (pv 1) (pe_ifExp (pt_val (pv 3)) pe_str pe_str)) pe_str) (pe_ix ix_tup (pv 2) pe_int (fun _ _ => rfl))) pe_str))) pss_nil)
    (pss_one (ps_ret (pe_op op_addS (pe_op op_addS (pe_op op_addS (pv 1) (pe_ifExp (pt_val (pv 3)) pe_str pe_str)) (pe_join pe_str (pe_lc (own := [("_law_worth_here", 4)]) (g := gName 4) (tt := tYes) rfl sc__law_matcher.nd (pi_tup (pv 2)) (blkOk_by (own := [("_law_worth_here", 4)]) (N := ["_law_matcher_here", "_law_name_here", "_law_values", "_law_inside", "_law_worth_here"]) (sc := defScope s__law_matcher) (by decide +kernel)) (fun _ _ _ _ _ => (pg_name (i := 4) sc__law_matcher.nd rfl (by first | exact Or.inl rfl | exact Or.inr rfl))) (fun _ _ _ _ _ => pts_nil) (fun _ _ _ _ _ => (pe_op op_addS (pe_op op_addS pe_str (pv 4)) pe_str))))) pe_str))))), ?_⟩
  walk_at "w0"
  walk_at "w"
  refine i_gtup ha rfl ?_
  walk_at "w"
  refine i_rLen (.inr hb) ?_
  walk_at "w"
  have hc : (∃ v, vals = [v]) ∨ (vals.length ≠ 1 ∧ ∀ b, showMat ⟨nm, vals, b⟩ = nm ++ (if b then (" in (" : Str) else (" not in (" : Str)) ++ Txt.join (", " : Str) (vals.map q1) ++ (")" : Str)) := by
    have hne : vals ≠ [] := ok.ne
    rcases vals with _ | ⟨v, _ | ⟨v2, vr⟩⟩
    · exact absurd rfl hne
    · exact .inl ⟨v, rfl⟩
    · exact .inr ⟨by simp, fun b => rfl⟩
  rcases hc with ⟨v, rfl⟩ | ⟨hne, esh⟩
  · have hv : v.length ≤ 20 := hvs v List.mem_cons_self
    refine i_T (decide_eq_true rfl) ?_
    cases ins with
    | true =>
      walk_at "s"
      refine i_rIxT hb atI_0 ?_
      walk_at "s"
      rw [qt3]
      exact q H (Same.refl H)
    | false =>
      walk_at "s"
      refine i_rIxT hb atI_0 ?_
      walk_at "s"
      rw [qt4]
      exact q H (Same.refl H)
  · refine i_F (decide_eq_false (fun e => ?_)) ?_
    · have := V.int.inj e
      rw [List.length_map] at this
      omega
    have hsum : ((vals.map q1).map (·.length)).sum ≤ (vals.map q1).length * 22 := sum_le fun y hy => by
      obtain ⟨v, hv, rfl⟩ := List.mem_map.mp hy
      have := hvs v hv
      show (q1 v).length ≤ 22
      rw [q1_len]
      omega
    have hjl := join_le (", " : Str) (vals.map q1)
    rw [List.length_map] at hsum hjl
    rw [lit6] at hjl
    have hj2 : (Txt.join (", " : Str) (vals.map q1)).length ≤ 144 := by omega
    rw [esh] at q
    cases ins with
    | true =>
      walk_at "l"
      refine ⟨⟨_, rfl⟩, ?_⟩
      walk_at "l"
      refine i_lcTup (fun j H' y => ∃ v, vals[j]? = some v ∧ y = .str (q1 v)) hb (by rw [List.length_map]; omega) (fun _ _ _ _ _ h => h) (fun i x Hi R hx si hR => ?_) (fun D H' ys s' hD hl hY => ?_)
      · rw [List.getElem?_map] at hx
        obtain ⟨v, hv, rfl⟩ := Option.map_eq_some_iff.mp hx
        have hv2 := hvs v (List.mem_of_getElem? hv)
        walk_at "s"
        refine ⟨rfl, ?_⟩
        walk_at "s"
        exact hR _ _ (Same.refl Hi) ⟨v, hv, rfl⟩
      · have e : ys = (vals.map q1).map V.str := lc_known (Y := fun j y => ∃ v, vals[j]? = some v ∧ y = .str (q1 v)) (by rw [hl]; simp) hY fun j y hy => by
          obtain ⟨v, hv, rfl⟩ := hy
          rw [List.getElem?_map, List.getElem?_map, hv]
          rfl
        refine ⟨_, D, vals.map q1, rfl, rfl, .inl (SqL.of (by rw [hD, e])), by rw [lit6, List.length_map]; omega, ?_⟩
        walk_at "s"
        exact q H' s'
    | false =>
      walk_at "l"
      refine ⟨⟨_, rfl⟩, ?_⟩
      walk_at "l"
      refine i_lcTup (fun j H' y => ∃ v, vals[j]? = some v ∧ y = .str (q1 v)) hb (by rw [List.length_map]; omega) (fun _ _ _ _ _ h => h) (fun i x Hi R hx si hR => ?_) (fun D H' ys s' hD hl hY => ?_)
      · rw [List.getElem?_map] at hx
        obtain ⟨v, hv, rfl⟩ := Option.map_eq_some_iff.mp hx
        have hv2 := hvs v (List.mem_of_getElem? hv)
        walk_at "s"
        refine ⟨rfl, ?_⟩
        walk_at "s"
        exact hR _ _ (Same.refl Hi) ⟨v, hv, rfl⟩
      · have e : ys = (vals.map q1).map V.str := lc_known (Y := fun j y => ∃ v, vals[j]? = some v ∧ y = .str (q1 v)) (by rw [hl]; simp) hY fun j y hy => by
          obtain ⟨v, hv, rfl⟩ := hy
          rw [List.getElem?_map, List.getElem?_map, hv]
          rfl
        refine ⟨_, D, vals.map q1, rfl, rfl, .inl (SqL.of (by rw [hD, e])), by rw [lit6, List.length_map]; omega, ?_⟩
        walk_at "s"
        exact q H' s'
theorem sc__law_selector : FnScope (["_law_metric", "_law_matchers", "_law_matcher_here"] : List Str) (["_law_metric", "_law_matchers"] : List Str) (defScope s__law_selector) := ⟨rfl, rfl, rfl, by decide +kernel, rfl, by decide +kernel, by decide +kernel⟩
theorem k_law_selector (T : Txt w K mg) : Cal P w K mg base 2 "_law_selector" (spSel K) := by
  have G__law_matcher := k_law_matcher (P := P) (base := base) T
  obtain ⟨fd, F⟩ := T.d__law_selector
  refine ⟨_, fd, ["_law_metric", "_law_matchers"], fn_ok F sc__law_selector (fun vs H Q E h => ?_) (fun cdv A outer s H vs Q E hr h => ?_), T.g__law_selector, F.kp, F.bindsN (fun _ _ _ _ _ _ us hl => match us, hl with | [_, _], _ => rfl)⟩
  · obtain ⟨_, _, _, _, rfl, _⟩ := h
    rfl
  obtain ⟨s0, b, ms, xs, rfl, hb, hms, hn, ok, q⟩ := h
  have hn2 := name_len hn
  refine ⟨_, (pss_cons (ps_if (pt_cmpR op_eq (pe_callB call_len' rfl T.z_len PySem.boot_len (pa_cons (pv 1) pa_nil)) pe_int (nomark _)) (pss_one (ps_ret (pv 0))) pss_nil)
    (pss_one (ps_ret (pe_op op_addS (pe_op op_addS (pe_op op_addS (pv 0) pe_str) (pe_join pe_str (pe_lc (own := [("_law_matcher_here", 2)]) (g := gName 2) (tt := tYes) rfl sc__law_selector.nd (pi_tup (pv 1)) (blkOk_by (own := [("_law_matcher_here", 2)]) (N := ["_law_metric", "_law_matchers", "_law_matcher_here"]) (sc := defScope s__law_selector) (by decide +kernel)) (fun _ _ _ _ _ => (pg_name (i := 2) sc__law_selector.nd rfl (by first | exact Or.inl rfl | exact Or.inr rfl))) (fun _ _ _ _ _ => pts_nil) (fun _ _ _ _ _ => (pe_c G__law_matcher hr (by omega) rfl (pa_cons (pv 2) pa_nil)))))) pe_str)))), ?_⟩
  walk_at "w0"
  walk_at "w"
  refine i_rLen (.inr hb) ?_
  walk_at "w"
  have hxl := hms.len
  by_cases he : ms = []
  · subst he
    refine i_T (decide_eq_true (by rw [hxl]; rfl)) ?_
    walk_at "w"
    exact q H (Same.refl H)
  · have hl : ms.length ≠ 0 := fun e => he (List.eq_nil_of_length_eq_zero e)
    refine i_F (decide_eq_false (fun e => by have := V.int.inj e; omega)) ?_
    have hf := ok.few
    have hjl := mats_join ok
    have hsum := mats_sum ok
    walk_at "l"
    refine ⟨⟨_, rfl⟩, ?_⟩
    walk_at "l"
    refine i_lcTup (fun j H' y => ∃ m, ms[j]? = some m ∧ y = .str (showMat m)) hb (by omega) (fun _ _ _ _ _ h => h) (fun i x Hi R hx si hR => ?_) (fun D H' ys s' hD hl' hY => ?_)
    · obtain ⟨m, a1, b1, hm, rfl, h1, h2⟩ := hms.at_ hx
      walk_at "s"
      refine ⟨rfl, ?_⟩
      walk_at "s"
      exact ⟨a1, b1, m, rfl, Same.sqT si h1, Same.sqT si h2, ok.all m (List.mem_of_getElem? hm), fun H4 s4 => hR _ _ s4 ⟨m, hm, rfl⟩⟩
    · have e : ys = (ms.map showMat).map V.str := lc_known (Y := fun j y => ∃ m, ms[j]? = some m ∧ y = .str (showMat m)) (by rw [hl', hxl]; simp) hY fun j y hy => by
        obtain ⟨m, hm, rfl⟩ := hy
        rw [List.getElem?_map, List.getElem?_map, hm]
        rfl
      refine ⟨_, D, ms.map showMat, rfl, rfl, .inl (SqL.of (by rw [hD, e])), by rw [lit6]; omega, ?_⟩
      walk_at "s"
      cases ms with
      | nil => exact absurd rfl he
      | cons m mr => exact q H' s'
end
end Wf


set_option Elab.async false
set_option linter.all false
set_option maxRecDepth 100000
set_option maxHeartbeats 4000000
namespace Wf
open PySem PySem.Spec PyProof.Rows L2
open C8 (pe_gc)
local macro_rules | `(tactic| walk_at "w1") => `(tactic| first
  | with_reducible refine i_seq ?_
  | with_reducible refine i_asg ?_
  | with_reducible refine i_gname ?_
  | ((with_reducible refine' i_var ?ivar ?imain); (case ivar => exact rfl))
  | with_reducible refine i_c ?_
  | with_reducible refine i_op ?_
  | with_reducible refine i_if ?_
  | with_reducible refine i_test ?_
  | with_reducible refine i_tB ?_
  | with_reducible refine i_bl ?_
  | with_reducible refine i_ret ?_
  | with_reducible refine i_retN ?_
  | with_reducible refine i_drop ?_
  | with_reducible refine i_next ?_
  | with_reducible refine i_cons ?_
  | with_reducible refine i_nil ?_
  | with_reducible refine i_cb ?_
  | with_reducible refine i_tup ?_
  | with_reducible refine i_lst ?_
  | with_reducible refine i_fld ?_
  | with_reducible refine i_sfld ?_
  | with_reducible refine i_call ?_
  | with_reducible refine i_meth ?_
  | with_reducible refine i_and ?_
  | with_reducible refine i_or ?_
  | with_reducible refine i_not ?_
  | with_reducible refine i_andV ?_
  | with_reducible refine i_orV ?_
  | with_reducible refine i_notV ?_
  | with_reducible refine i_ifV ?_
  | with_reducible refine i_un ?_
  | with_reducible refine i_neg ?_
  | with_reducible refine i_gcons ?_
  | with_reducible refine i_sl ?_
  | with_reducible refine i_part ?_
  | with_reducible refine i_nopart ?_
  | with_reducible refine i_int ?_
  | with_reducible refine i_inS ?_
  | with_reducible refine i_notInS ?_
  | with_reducible refine i_tyS ?_
  | with_reducible refine i_forL ?_
  | with_reducible refine i_forT ?_
  | with_reducible refine i_forR1 ?_
  | with_reducible refine i_bm ?_
  | with_reducible refine i_bm0 ?_
  | with_reducible refine i_gnil ?_
  | with_reducible refine i_rI0 ?_
  | with_reducible refine i_rIsN ?_
  | with_reducible refine i_rNotN ?_
  | with_reducible refine i_rInt ?_
  | ((with_reducible refine i_rEq ?isc ?imain); (case isc => exact rfl))
  | ((with_reducible refine i_rNe ?isc ?imain); (case isc => exact rfl))
  | with_reducible refine i_T rfl ?_
  | with_reducible refine i_F rfl ?_
  | ((refine' i_T ?icnd ?imain); (case icnd => decide +kernel))
  | ((refine' i_F ?icnd ?imain); (case icnd => decide +kernel))
  | fail)
local macro_rules | `(tactic| walk_at "w") => `(tactic| (repeat' walk_at "w1"))
local macro_rules | `(tactic| walk_at "w0") => `(tactic| (simp only [cxOf, L2.start, List.map_cons, List.map_nil, List.length_cons, List.length_nil, Nat.reduceAdd, Nat.reduceSub, Nat.zero_add, List.replicate_zero, List.replicate_succ, List.cons_append, List.nil_append]))
local macro_rules | `(tactic| walk_at "tk") => `(tactic| (simp only [Tk.sign, Tk.val]))
local macro_rules | `(tactic| walk_at "c") => `(tactic| (dsimp only [List.set_cons_zero, List.set_cons_succ, List.cons_append, List.nil_append]))

local macro_rules | `(tactic| walk_at "len") => `(tactic| (refine le_line ?_; (try simp only [str_app, lit1, lit2, lit3, lit4, lit5, lit6, lit7, lit8, lit9, lit10, lit11, lit12, lit13, lit14, lit15, lit16, lit17, lit18]); omega))
local macro_rules | `(tactic| walk_at "s1") => `(tactic| first
  | walk_at "w1"
  | (refine i_rAddS (by walk_at "len") ?_)
  | fail)
local macro_rules | `(tactic| walk_at "s") => `(tactic| (repeat' walk_at "s1"))
local macro_rules | `(tactic| walk_at "l1") => `(tactic| first
  | with_reducible refine i_lst2 ?_
  | with_reducible refine i_tup2 ?_
  | with_reducible refine i_mod (by decide) ?_
  | with_reducible refine i_div ⟨by decide, by decide⟩ ?_
  | with_reducible refine i_mulR ⟨by decide, by decide⟩ ?_
  | with_reducible refine i_mulL ⟨by decide, by decide⟩ ?_
  | with_reducible refine i_pow ⟨by decide, by decide, by decide⟩ ?_
  | with_reducible refine i_lcT ?_
  | with_reducible refine i_lcL ?_
  | with_reducible refine i_lcR ?_
  | with_reducible refine i_M1 ?_
  | walk_at "w1"
  | (refine i_rAddS (by walk_at "len") ?_)
  | fail)
local macro_rules | `(tactic| walk_at "l") => `(tactic| (repeat' walk_at "l1"))

section
variable {P : Program} {w : World} {K : PySem.W.Frag} {mg : Str → Option Value} {base : Heap} {H0 Hb H H' : Hp}
def MarkR (K : PySem.W.Frag) (H : Hp) (v : V) : Prop := ∃ (a : Addr) (x : V) (n : Int), v = .ref a ∧ SqT K H a [x, .int n]
theorem MarkR.mono {v : V} (t : TupLe K H H') : MarkR K H v → MarkR K H' v := fun ⟨a, x, n, e, h⟩ => ⟨a, x, n, e, t _ _ h⟩
def spMoved (K : PySem.W.Frag) : Sp := fun vs H Q _ => ∃ (p : Addr) (xs : List V) (n : Int), vs = [.ref p, .int n] ∧ SqL K H p xs ∧ (∀ v ∈ xs, MarkR K H v) ∧ xs.length ≤ 1000 ∧
  ∀ H' q ys, Same H H' → H' q = some (.lst ys) → ys.length = xs.length → (∀ v ∈ ys, MarkR K H' v) → Q (.ref q) H'
theorem sc__law_moved : FnScope (["_law_marks", "_law_many", "_law_node", "_law_place"] : List Str) (["_law_marks", "_law_many"] : List Str) (defScope s__law_moved) := ⟨rfl, rfl, rfl, by decide +kernel, rfl, by decide +kernel, by decide +kernel⟩
theorem k_law_moved (T : Txt w K mg) : Cal P w K mg base 1 "_law_moved" (spMoved K) := by
  obtain ⟨fd, F⟩ := T.d__law_moved
  refine ⟨_, fd, ["_law_marks", "_law_many"], fn_ok F sc__law_moved (fun vs H Q E h => ?_) (fun cdv A outer s H vs Q E hr h => ?_), T.g__law_moved, F.kp, F.bindsN (fun _ _ _ _ _ _ us hl => match us, hl with | [_, _], _ => rfl)⟩
  · obtain ⟨_, _, _, rfl, _⟩ := h
    rfl
  obtain ⟨p, xs, n, rfl, hp, hm, hz, q⟩ := h
  refine ⟨_, (pss_one (ps_ret (pe_lc (own := [("_law_node", 2), ("_law_place", 3)]) (g := gTup _ 2 (gCons (gName 2) (gCons (gName 3) (gNil)))) (tt := tYes) rfl sc__law_moved.nd (pi_list (pv 0)) (blkOk_by (own := [("_law_node", 2), ("_law_place", 3)]) (N := ["_law_marks", "_law_many", "_law_node", "_law_place"]) (sc := defScope s__law_moved) (by decide +kernel)) (fun _ _ _ _ _ => (pg_tup (by rfl) (pgs_cons (pg_name (i := 2) sc__law_moved.nd rfl (by first | exact Or.inl rfl | exact Or.inr rfl)) (pgs_cons (pg_name (i := 3) sc__law_moved.nd rfl (by first | exact Or.inl rfl | exact Or.inr rfl)) pgs_nil)))) (fun _ _ _ _ _ => pts_nil) (fun _ _ _ _ _ => (pe_tup (pa_cons (pv 2) (pa_cons (pe_op op_add (pv 3) (pv 1)) pa_nil))))))), ?_⟩
  walk_at "w0"
  walk_at "l"
  refine i_lcList (fun j H' y => MarkR K H' y) hp (by omega) (fun _ _ _ _ t h => h.mono t) (fun i x Hi R hx si hR => ?_) (fun D H' ys s' hD hl hY => ?_)
  · obtain ⟨a, y, m, rfl, ha⟩ := hm x (List.mem_of_getElem? hx)
    refine i_gtup (Same.sqT si ha) rfl ?_
    walk_at "l"
    refine ⟨rfl, ?_⟩
    walk_at "l"
    refine i_TupQ (K := K) (by simp) fun t H2 nt s2 ht => ?_
    exact hR _ _ s2 ⟨t, _, _, rfl, ht⟩
  · walk_at "l"
    refine q H' D ys s' hD hl fun v hv => ?_
    obtain ⟨i, hi, e⟩ := List.getElem_of_mem hv
    exact hY i v (by rw [List.getElem?_eq_getElem hi, e])
def PairR (K : PySem.W.Frag) (H : Hp) (z : Str) (n : Nat) (v : V) : Prop := ∃ (t l : Addr) (ys : List V), v = .ref t ∧ SqT K H t [.str z, .ref l] ∧ H l = some (.lst ys) ∧ ys.length ≤ n ∧ ∀ y ∈ ys, MarkR K H y
theorem PairR.same {z : Str} {n : Nat} {v : V} (s : Same H H') : PairR K H z n v → PairR K H' z n v := fun ⟨t, l, ys, e, h1, h2, h3, h4⟩ => ⟨t, l, ys, e, Same.sqT s h1, s _ _ h2, h3, fun y hy => (h4 y hy).mono (Same.tup s)⟩
def spShown (K : PySem.W.Frag) (n : Nat) : Sp := fun vs H Q _ => ∃ (e : Ex) (v : V), vs = [v] ∧ ER K H e v ∧ e.Ok ∧ e.size ≤ 40 ∧ e.depth < n ∧ ∀ H' u, Same H H' → PairR K H' e.show e.size u → Q u H'
def spLSide (K : PySem.W.Frag) (n : Nat) : Sp := fun vs H Q _ => ∃ (e : Ex) (v : V) (b : Bool), vs = [v, .bl b] ∧ ER K H e v ∧ e.Ok ∧ e.size ≤ 40 ∧ e.depth < n ∧ ∀ H' u, Same H H' → PairR K H' (brk b e.show) e.size u → Q u H'
theorem sc__law_side : FnScope (["_law_part", "_law_bracketed", "_law_text", "_law_marks"] : List Str) (["_law_part", "_law_bracketed"] : List Str) (defScope s__law_side) := ⟨rfl, rfl, rfl, by decide +kernel, rfl, by decide +kernel, by decide +kernel⟩
theorem k_lside_of {n : Nat} (T : Txt w K mg) (G__law_shown : Cal P w K mg base (2 * n + 1) "_law_shown" (spShown K n)) : Cal P w K mg base (2 * n + 2) "_law_side" (spLSide K n) := by
  have G__law_moved := k_law_moved (P := P) (base := base) T
  obtain ⟨fd, F⟩ := T.d__law_side
  refine ⟨_, fd, ["_law_part", "_law_bracketed"], fn_ok F sc__law_side (fun vs H Q E h => ?_) (fun cdv A outer s H vs Q E hr h => ?_), T.g__law_side, F.kp, F.bindsN (fun _ _ _ _ _ _ us hl => match us, hl with | [_, _], _ => rfl)⟩
  · obtain ⟨_, _, _, rfl, _⟩ := h
    rfl
  obtain ⟨e, v, b, rfl, he, ok, hz, hd, q⟩ := h
  have hlen := show_len ok
  refine ⟨_, (pss_cons (ps_asg (pe_c G__law_shown hr (by omega) rfl (pa_cons (pv 0) pa_nil)) (pg_tup (by rfl) (pgs_cons (pg_name (i := 2) sc__law_side.nd rfl (by first | exact Or.inl rfl | exact Or.inr rfl)) (pgs_cons (pg_name (i := 3) sc__law_side.nd rfl (by first | exact Or.inl rfl | exact Or.inr rfl)) pgs_nil))))
    (pss_cons (ps_if (pt_val (pv 1)) (pss_one (ps_ret (pe_tup (pa_cons (pe_op op_addS (pe_op op_addS pe_str (pv 2)) pe_str) (pa_cons (pe_c G__law_moved hr (by omega) rfl (pa_cons (pv 3) (pa_cons pe_int pa_nil))) pa_nil))))) pss_nil)
    (pss_one (ps_ret (pe_tup (pa_cons (pv 2) (pa_cons (pv 3) pa_nil))))))), ?_⟩
  walk_at "w0"
  walk_at "l"
  refine ⟨e, v, rfl, he, ok, hz, hd, fun H1 u s1 hu => ?_⟩
  obtain ⟨t, l, ys, rfl, ht, hl, hn, hm⟩ := hu
  walk_at "l"
  refine i_gtup ht rfl ?_
  walk_at "l"
  cases b with
  | true =>
    walk_at "l"
    refine ⟨l, ys, 1, rfl, SqL.of hl, hm, by omega, fun H2 r zs s2 hr hrl hrm => ?_⟩
    walk_at "l"
    refine i_TupQ (K := K) (by simp) fun t2 H3 nt s3 ht2 => ?_
    exact q H3 _ ((s1.trans s2).trans s3) ⟨t2, r, zs, rfl, ht2, s3 _ _ hr, by omega, fun y hy => (hrm y hy).mono (Same.tup s3)⟩
  | false =>
    walk_at "l"
    refine i_TupQ (K := K) (by simp) fun t2 H3 nt s3 ht2 => ?_
    exact q H3 _ (s1.trans s3) ⟨t2, l, ys, rfl, ht2, s3 _ _ hl, by omega, fun y hy => (hm y hy).mono (Same.tup s3)⟩
theorem i_rLstN {p : Addr} {ys : List V} {Q : VK} (h1 : SqL K H p ys ∨ SqT K H p ys) (h : ∀ l H2, H l = none → Same H H2 → H2 l = some (.lst ys) → Q (.ref l) H2) : rLstO K [.ref p] H Q := i_rLstO h1 fun l hl => h l _ hl (same_new hl _) upd_same
theorem i_rTupN {p : Addr} {ys : List V} {Q : VK} (h1 : SqL K H p ys) (h : ∀ l H2, H l = none → Same H H2 → SqT K H2 l ys → Q (.ref l) H2) : rTupO K [.ref p] H Q := i_rTupL h1 fun l hl => h l _ hl (same_new hl _) (SqT.of upd_same)
theorem i_slLN {p : Addr} {ys : List V} {lo hi : Option Int} {Q : VK} (h1 : SqL K H p ys) (h : ∀ l H2, H l = none → Same H H2 → H2 l = some (.lst (cutV ys lo hi)) → Q (.ref l) H2) : rSlL K (.ref p) lo hi H Q := i_slL h1 fun l hl => h l _ hl (same_new hl _) upd_same
theorem i_rCatN {l b : Addr} {xs zs : List V} {Q : VK} (h1 : H l = some (.lst xs)) (h2 : H b = some (.lst zs)) (hz : xs.length + zs.length ≤ 100000) (h : ∀ p H2, H p = none → Same H H2 → H2 p = some (.lst (xs ++ zs)) → Q (.ref p) H2) : rCat (.ref l) (.ref b) H Q :=
  ⟨l, b, xs, zs, rfl, rfl, h1, h2, le_line hz, fun p hp => h p _ hp (same_new hp _) upd_same⟩
theorem marks_app {xs ys : List V} (h1 : ∀ v ∈ xs, MarkR K H v) (h2 : ∀ v ∈ ys, MarkR K H v) : ∀ v ∈ xs ++ ys, MarkR K H v := fun v hv => by
  rcases List.mem_append.mp hv with h | h
  · exact h1 v h
  · exact h2 v h
theorem marks_mono {xs : List V} (t : TupLe K H H') (h1 : ∀ v ∈ xs, MarkR K H v) : ∀ v ∈ xs, MarkR K H' v := fun v hv => (h1 v hv).mono t
theorem marks_one {v : V} (h : MarkR K H v) : ∀ y ∈ [v], MarkR K H y := fun y hy => by
  rw [List.mem_singleton.mp hy]
  exact h
theorem qt5 (a : Str) : a ++ (") " : Str) ++ ("(" : Str) = a ++ (") (" : Str) := by
  rw [Str.append_assoc, show (") " : Str) ++ ("(" : Str) = (") (" : Str) from by decide +kernel]
theorem sc__law_shown : FnScope (["_law_expression_here", "_law_head", "_law_text", "_law_marks", "_law_mine", "_law_left", "_law_first", "_law_right", "_law_second", "_law_place", "_law_start"] : List Str) (["_law_expression_here"] : List Str) (defScope s__law_shown) := ⟨rfl, rfl, rfl, by decide +kernel, rfl, by decide +kernel, by decide +kernel⟩
theorem k_shown_of {n : Nat} (T : Txt w K mg) (G__law_shown : Cal P w K mg base (2 * n + 1) "_law_shown" (spShown K n)) (G__law_side : Cal P w K mg base (2 * n + 2) "_law_side" (spLSide K n)) : Cal P w K mg base (2 * (n + 1) + 1) "_law_shown" (spShown K (n + 1)) := by
  have G__law_moved := k_law_moved (P := P) (base := base) T
  have G__law_selector := k_law_selector (P := P) (base := base) T
  have G__law_strength := k_law_strength (P := P) (base := base) T
  obtain ⟨fd, F⟩ := T.d__law_shown
  refine ⟨_, fd, ["_law_expression_here"], fn_ok F sc__law_shown (fun vs H Q E h => ?_) (fun cdv A outer s H vs Q E hr h => ?_), T.g__law_shown, F.kp, F.bindsN (fun _ _ _ _ _ _ us hl => match us, hl with | [_], _ => rfl)⟩
  · obtain ⟨_, _, rfl, _⟩ := h
    rfl
  obtain ⟨e, v, rfl, he, ok, hz, hd, q⟩ := h
  refine ⟨_, (pss_cons (ps_if (pt_cmpR op_eq (pe_ix ix_tup (pv 0) pe_int (fun _ _ => rfl)) pe_str (nomark _)) (pss_one (ps_ret (pe_tup (pa_cons (pe_callTy call_str' rfl T.z_str (by decide +kernel) (pa_cons (pe_ix ix_tup (pv 0) pe_int (fun _ _ => rfl)) pa_nil)) (pa_cons (pe_lst pa_nil) pa_nil))))) pss_nil)
    (pss_cons (ps_if (pt_cmpR op_eq (pe_ix ix_tup (pv 0) pe_int (fun _ _ => rfl)) pe_str (nomark _)) (pss_one (ps_ret (pe_tup (pa_cons (pe_c G__law_selector hr (by omega) rfl (pa_cons (pe_ix ix_tup (pv 0) pe_int (fun _ _ => rfl)) (pa_cons (pe_ix ix_tup (pv 0) pe_int (fun _ _ => rfl)) pa_nil))) (pa_cons (pe_lst pa_nil) pa_nil))))) pss_nil)
    (pss_cons (ps_if (pt_cmpR op_eq (pe_ix ix_tup (pv 0) pe_int (fun _ _ => rfl)) pe_str (nomark _)) (pss_one (ps_ret (pe_tup (pa_cons (pe_op op_addS (pe_op op_addS (pe_op op_addS (pe_op op_addS (pe_op op_addS (pe_ix ix_tup (pv 0) pe_int (fun _ _ => rfl)) pe_str) (pe_c G__law_selector hr (by omega) rfl (pa_cons (pe_ix ix_tup (pv 0) pe_int (fun _ _ => rfl)) (pa_cons (pe_ix ix_tup (pv 0) pe_int (fun _ _ => rfl)) pa_nil)))) pe_str) (pe_callTy call_str' rfl T.z_str (by decide +kernel) (pa_cons (pe_ix ix_tup (pv 0) pe_int (fun _ _ => rfl)) pa_nil))) pe_str) (pa_cons (pe_lst pa_nil) pa_nil))))) pss_nil)
    (pss_cons (ps_if (pt_cmpR op_eq (pe_ix ix_tup (pv 0) pe_int (fun _ _ => rfl)) pe_str (nomark _)) (pss_cons (ps_set (i := 1) sc__law_shown.nd rfl (by first | exact Or.inl rfl | exact Or.inr rfl) (pe_ix ix_tup (pv 0) pe_int (fun _ _ => rfl)))
    (pss_cons (ps_if (pt_cmpR op_gt (pe_callB call_len' rfl T.z_len PySem.boot_len (pa_cons (pe_ix ix_tup (pv 0) pe_int (fun _ _ => rfl)) pa_nil)) pe_int (nomark _)) (pss_one (ps_set (i := 1) sc__law_shown.nd rfl (by first | exact Or.inl rfl | exact Or.inr rfl) (pe_op op_addS (pe_op op_addS (pe_op op_addS (pv 1) pe_str) (pe_join pe_str (pe_callTy call_list' rfl T.z_list (by decide +kernel) (pa_cons (pe_ix ix_tup (pv 0) pe_int (fun _ _ => rfl)) pa_nil)))) pe_str))) pss_nil)
    (pss_cons (ps_asg (pe_c G__law_shown hr (by omega) rfl (pa_cons (pe_ix ix_tup (pv 0) pe_int (fun _ _ => rfl)) pa_nil)) (pg_tup (by rfl) (pgs_cons (pg_name (i := 2) sc__law_shown.nd rfl (by first | exact Or.inl rfl | exact Or.inr rfl)) (pgs_cons (pg_name (i := 3) sc__law_shown.nd rfl (by first | exact Or.inl rfl | exact Or.inr rfl)) pgs_nil))))
    (pss_one (ps_ret (pe_tup (pa_cons (pe_op op_addS (pe_op op_addS (pe_op op_addS (pv 1) pe_str) (pv 2)) pe_str) (pa_cons (pe_op op_cat (pe_c G__law_moved hr (by omega) rfl (pa_cons (pv 3) (pa_cons (pe_op op_add (pe_callB call_lenS rfl T.z_len PySem.boot_len (pa_cons (pv 1) pa_nil)) pe_int) pa_nil))) (pe_lst (pa_cons (pe_tup (pa_cons (pv 0) (pa_cons pe_int pa_nil))) pa_nil))) pa_nil)))))))) pss_nil)
    (pss_cons (ps_set (i := 4) sc__law_shown.nd rfl (by first | exact Or.inl rfl | exact Or.inr rfl) (pe_c G__law_strength hr (by omega) rfl (pa_cons (pv 0) pa_nil)))
    (pss_cons (ps_asg (pe_c G__law_side hr (by omega) rfl (pa_cons (pe_ix ix_tup (pv 0) pe_int (fun _ _ => rfl)) (pa_cons (pe_cmpR op_lt (pe_c G__law_strength hr (by omega) rfl (pa_cons (pe_ix ix_tup (pv 0) pe_int (fun _ _ => rfl)) pa_nil)) (pv 4) (nomark _)) pa_nil))) (pg_tup (by rfl) (pgs_cons (pg_name (i := 5) sc__law_shown.nd rfl (by first | exact Or.inl rfl | exact Or.inr rfl)) (pgs_cons (pg_name (i := 6) sc__law_shown.nd rfl (by first | exact Or.inl rfl | exact Or.inr rfl)) pgs_nil))))
    (pss_cons (ps_asg (pe_c G__law_side hr (by omega) rfl (pa_cons (pe_ix ix_tup (pv 0) pe_int (fun _ _ => rfl)) (pa_cons (pe_cmpR op_le (pe_c G__law_strength hr (by omega) rfl (pa_cons (pe_ix ix_tup (pv 0) pe_int (fun _ _ => rfl)) pa_nil)) (pv 4) (nomark _)) pa_nil))) (pg_tup (by rfl) (pgs_cons (pg_name (i := 7) sc__law_shown.nd rfl (by first | exact Or.inl rfl | exact Or.inr rfl)) (pgs_cons (pg_name (i := 8) sc__law_shown.nd rfl (by first | exact Or.inl rfl | exact Or.inr rfl)) pgs_nil))))
    (pss_cons (ps_set (i := 9) sc__law_shown.nd rfl (by first | exact Or.inl rfl | exact Or.inr rfl) (pe_op op_add (pe_callB call_lenS rfl T.z_len PySem.boot_len (pa_cons (pv 5) pa_nil)) pe_int))
    (pss_cons (ps_set (i := 10) sc__law_shown.nd rfl (by first | exact Or.inl rfl | exact Or.inr rfl) (pe_op op_add (pe_op op_add (pv 9) (pe_callB call_lenS rfl T.z_len PySem.boot_len (pa_cons (pe_ix ix_tup (pv 0) pe_int (fun _ _ => rfl)) pa_nil))) pe_int))
    (pss_one (ps_ret (pe_tup (pa_cons (pe_op op_addS (pe_op op_addS (pe_op op_addS (pe_op op_addS (pv 5) pe_str) (pe_ix ix_tup (pv 0) pe_int (fun _ _ => rfl))) pe_str) (pv 7)) (pa_cons (pe_op op_cat (pe_op op_cat (pv 6) (pe_c G__law_moved hr (by omega) rfl (pa_cons (pv 8) (pa_cons (pv 10) pa_nil)))) (pe_lst (pa_cons (pe_tup (pa_cons (pv 0) (pa_cons (pv 9) pa_nil))) pa_nil))) pa_nil)))))))))))))), ?_⟩
  walk_at "w0"
  walk_at "l"
  cases e with
  | num k =>
    obtain ⟨a, rfl, h1⟩ := he
    refine i_rIxT h1 atI_0 ?_
    walk_at "l"
    refine i_rIxT h1 atI_1 ?_
    walk_at "l"
    refine i_rStr ok ?_
    walk_at "l"
    refine i_LstQ (by simp) fun l G1 n1 s1 e1 => ?_
    walk_at "l"
    refine i_TupQ (K := K) (by simp) fun t G2 n2 s2 e2 => ?_
    exact q G2 _ (s1.trans s2) ⟨t, l, [], rfl, e2, s2 _ _ e1, Nat.zero_le _, fun y hy => by cases hy⟩
  | latest m ms =>
    obtain ⟨a, b, xs, rfl, h1, h2, h3⟩ := he
    refine i_rIxT h1 atI_0 ?_
    walk_at "l"
    refine i_rIxT h1 atI_0 ?_
    walk_at "l"
    refine i_rIxT h1 atI_1 ?_
    walk_at "l"
    refine i_rIxT h1 atI_2 ?_
    walk_at "l"
    refine ⟨m, b, ms, xs, rfl, h2, h3, ok.1, ok.2, fun H' s' => ?_⟩
    walk_at "l"
    refine i_LstQ (by simp) fun l G1 n1 s1 e1 => ?_
    walk_at "l"
    refine i_TupQ (K := K) (by simp) fun t G2 n2 s2 e2 => ?_
    exact q G2 _ (s'.trans (s1.trans s2)) ⟨t, l, [], rfl, e2, s2 _ _ e1, Nat.zero_le _, fun y hy => by cases hy⟩
  | over o m ms k =>
    obtain ⟨a, b, xs, rfl, h1, h2, h3⟩ := he
    have g1 := showSel_len ok.1 ok.2.1
    have g2 := ow_len o
    have hk : k.natAbs < 1000000000000000 := by have := ok.2.2; omega
    have g3 := int_len hk
    refine i_rIxT h1 atI_0 ?_
    walk_at "l"
    refine i_rIxT h1 atI_0 ?_
    walk_at "l"
    refine i_rIxT h1 atI_0 ?_
    walk_at "l"
    refine i_rIxT h1 atI_1 ?_
    walk_at "l"
    refine i_rIxT h1 atI_2 ?_
    walk_at "l"
    refine i_rIxT h1 atI_3 ?_
    walk_at "l"
    refine ⟨m, b, ms, xs, rfl, h2, h3, ok.1, ok.2.1, fun H' s' => ?_⟩
    walk_at "l"
    refine i_rIxT (Same.sqT s' h1) atI_4 ?_
    walk_at "l"
    refine i_rStr hk ?_
    walk_at "l"
    refine i_LstQ (by simp) fun l G1 n1 s1 e1 => ?_
    walk_at "l"
    refine i_TupQ (K := K) (by simp) fun t G2 n2 s2 e2 => ?_
    exact q G2 _ (s'.trans (s1.trans s2)) ⟨t, l, [], rfl, e2, s2 _ _ e1, Nat.zero_le _, fun y hy => by cases hy⟩
  | agg o ns i =>
    obtain ⟨a, b, x, rfl, h1, h2, h3⟩ := he
    have g1 := show_len ok.2.2
    have g2 := aw_len o
    have hz2 : i.size + 1 ≤ 40 := hz
    have hd2 : i.depth + 1 < n + 1 := hd
    have hfew := ok.2.1
    refine i_rIxT h1 atI_0 ?_
    walk_at "l"
    refine i_rIxT h1 atI_0 ?_
    walk_at "l"
    refine i_rIxT h1 atI_0 ?_
    walk_at "l"
    refine i_rIxT h1 atI_0 ?_
    walk_at "l"
    refine i_rIxT h1 atI_1 ?_
    walk_at "l"
    refine i_rIxT h1 atI_2 ?_
    walk_at "l"
    refine i_rLen (.inr h2) ?_
    walk_at "l"
    by_cases hne : ns = []
    · subst hne
      refine i_F (decide_eq_false (by simp)) ?_
      walk_at "l"
      refine i_rIxT (Same.sqT (Same.refl H) h1) atI_3 ?_
      walk_at "l"
      refine ⟨i, x, rfl, ER.mono (Same.tup (Same.refl H)) h3, ok.2.2, by omega, by omega, fun H2 u s2 hu => ?_⟩
      obtain ⟨t, l, ys, rfl, ht, hl, hn, hm⟩ := hu
      refine i_gtup ht rfl ?_
      walk_at "l"
      refine i_rLenS (by walk_at "len") ?_
      walk_at "l"
      refine ⟨l, ys, _, rfl, SqL.of hl, hm, by omega, fun H3 r zs s3 hr hrl hrm => ?_⟩
      walk_at "l"
      refine i_TupQ (K := K) (by simp) fun t4 H4 n4 s4 e4 => ?_
      walk_at "l"
      refine i_LstQ (by simp) fun t5 H5 n5 s5 e5 => ?_
      walk_at "l"
      refine i_rCatN ((s4.trans s5) _ _ hr) e5 (by simp only [List.length_singleton]; omega) fun t6 H6 n6 s6 e6 => ?_
      walk_at "l"
      refine i_TupQ (K := K) (by simp) fun t7 H7 n7 s7 e7 => ?_
      refine q H7 _ ((Same.refl H).trans (s2.trans (s3.trans (s4.trans (s5.trans (s6.trans s7)))))) ⟨t7, t6, _, rfl, ?_, s7 _ _ e6, ?_, ?_⟩
      · exact e7
      · rw [List.length_append, List.length_singleton]
        show _ ≤ i.size + 1
        omega
      · exact marks_app (marks_mono (Same.tup (s4.trans (s5.trans (s6.trans s7)))) hrm) (marks_one ⟨t4, _, _, rfl, Same.sqT (s5.trans (s6.trans s7)) e4⟩)
    · have hpos : ns.length ≠ 0 := fun e => hne (List.eq_nil_of_length_eq_zero e)
      have j1 := names_sum ok.1 hfew
      have j2 := names_join ok.1 hfew
      refine i_T (decide_eq_true (by rw [List.length_map]; omega)) ?_
      walk_at "l"
      refine ⟨⟨_, rfl⟩, ?_⟩
      walk_at "l"
      refine i_rIxT h1 atI_2 ?_
      walk_at "l"
      refine i_rLstN (.inr h2) fun t0 G0 n0 s0 e0 => ?_
      refine ⟨_, t0, ns, rfl, rfl, .inl (SqL.of e0), by rw [lit6]; omega, ?_⟩
      walk_at "l"
      refine i_rIxT (Same.sqT s0 h1) atI_3 ?_
      walk_at "l"
      refine ⟨i, x, rfl, ER.mono (Same.tup s0) h3, ok.2.2, by omega, by omega, fun H2 u s2 hu => ?_⟩
      obtain ⟨t, l, ys, rfl, ht, hl, hn, hm⟩ := hu
      refine i_gtup ht rfl ?_
      walk_at "l"
      refine i_rLenS (by walk_at "len") ?_
      walk_at "l"
      refine ⟨l, ys, _, rfl, SqL.of hl, hm, by omega, fun H3 r zs s3 hr hrl hrm => ?_⟩
      walk_at "l"
      refine i_TupQ (K := K) (by simp) fun t4 H4 n4 s4 e4 => ?_
      walk_at "l"
      refine i_LstQ (by simp) fun t5 H5 n5 s5 e5 => ?_
      walk_at "l"
      refine i_rCatN ((s4.trans s5) _ _ hr) e5 (by simp only [List.length_singleton]; omega) fun t6 H6 n6 s6 e6 => ?_
      walk_at "l"
      refine i_TupQ (K := K) (by simp) fun t7 H7 n7 s7 e7 => ?_
      refine q H7 _ (s0.trans (s2.trans (s3.trans (s4.trans (s5.trans (s6.trans s7)))))) ⟨t7, t6, _, rfl, ?_, s7 _ _ e6, ?_, ?_⟩
      · rw [qt5] at e7
        cases ns with
        | nil => exact absurd rfl hne
        | cons n1 nr => exact e7
      · rw [List.length_append, List.length_singleton]
        show _ ≤ i.size + 1
        omega
      · exact marks_app (marks_mono (Same.tup (s4.trans (s5.trans (s6.trans s7)))) hrm) (marks_one ⟨t4, _, _, rfl, Same.sqT (s5.trans (s6.trans s7)) e4⟩)
  | bin o x1 x2 =>
    obtain ⟨a, x, y, rfl, h1, h2, h3⟩ := he
    have hz2 : x1.size + x2.size + 1 ≤ 40 := hz
    have hd2 : max x1.depth x2.depth + 1 < n + 1 := hd
    have g1 := show_len ok.1
    have g2 := show_len ok.2
    have g3 := op_len o
    have g4 := brk_len (decide (x1.lev < o.lev)) x1.show
    have g5 := brk_len (decide (x2.lev < o.lev + 1)) x2.show
    refine i_rIxT h1 atI_0 ?_
    walk_at "l"
    refine i_rIxT h1 atI_0 ?_
    walk_at "l"
    refine i_rIxT h1 atI_0 ?_
    walk_at "l"
    refine i_rIxT h1 atI_0 ?_
    walk_at "l"
    refine ⟨.bin o x1 x2, _, rfl, ⟨a, x, y, rfl, h1, h2, h3⟩, fun H1 s1 => ?_⟩
    walk_at "l"
    refine i_rIxT (Same.sqT s1 h1) atI_2 ?_
    walk_at "l"
    refine i_rIxT (Same.sqT s1 h1) atI_2 ?_
    walk_at "l"
    refine ⟨x1, x, rfl, h2.mono (Same.tup s1), fun H2 s2 => ?_⟩
    walk_at "l"
    refine ⟨x1, x, _, rfl, h2.mono (Same.tup (s1.trans s2)), ok.1, by omega, by omega, fun H3 u s3 hu => ?_⟩
    have S3 := s1.trans (s2.trans s3)
    rw [show decide (((x1.lev : Nat) : Int) < ((Ex.bin o x1 x2).lev : Nat)) = decide (x1.lev < o.lev) from decide_eq_decide.mpr (Int.ofNat_lt)] at hu
    obtain ⟨t, l, ys, rfl, ht, hl, hn, hm⟩ := hu
    refine i_gtup ht rfl ?_
    walk_at "l"
    refine i_rIxT (Same.sqT S3 h1) atI_3 ?_
    walk_at "l"
    refine i_rIxT (Same.sqT S3 h1) atI_3 ?_
    walk_at "l"
    refine ⟨x2, y, rfl, h3.mono (Same.tup S3), fun H4 s4 => ?_⟩
    walk_at "l"
    refine ⟨x2, y, _, rfl, h3.mono (Same.tup (S3.trans s4)), ok.2, by omega, by omega, fun H5 u s5 hu => ?_⟩
    have S5 := S3.trans (s4.trans s5)
    rw [show decide (((x2.lev : Nat) : Int) ≤ ((Ex.bin o x1 x2).lev : Nat)) = decide (x2.lev < o.lev + 1) from decide_eq_decide.mpr (Int.ofNat_le.trans Nat.lt_succ_iff.symm)] at hu
    obtain ⟨t', l', ys', rfl, ht', hl', hn', hm'⟩ := hu
    refine i_gtup ht' rfl ?_
    walk_at "l"
    refine i_rLenS (by walk_at "len") ?_
    walk_at "l"
    refine i_rIxT (Same.sqT S5 h1) atI_1 ?_
    walk_at "l"
    refine i_rLenS (by walk_at "len") ?_
    walk_at "l"
    refine i_rIxT (Same.sqT S5 h1) atI_1 ?_
    walk_at "l"
    refine ⟨l', ys', _, rfl, SqL.of hl', hm', by omega, fun H6 r zs s6 hr hrl hrm => ?_⟩
    walk_at "l"
    have S46 := (s4.trans s5).trans s6
    refine i_rCatN (S46 _ _ hl) hr (by omega) fun t7 H7 n7 s7 e7 => ?_
    walk_at "l"
    refine i_TupQ (K := K) (by simp) fun t8 H8 n8 s8 e8 => ?_
    walk_at "l"
    refine i_LstQ (by simp) fun t9 H9 n9 s9 e9 => ?_
    walk_at "l"
    refine i_rCatN ((s8.trans s9) _ _ e7) e9 (by rw [List.length_append, List.length_singleton]; omega) fun tA HA nA sA eA => ?_
    walk_at "l"
    refine i_TupQ (K := K) (by simp) fun tB HB nB sB eB => ?_
    have S7B := (s7.trans (s8.trans (s9.trans (sA.trans sB))))
    refine q HB _ (S5.trans (s6.trans S7B)) ⟨tB, tA, _, rfl, eB, sB _ _ eA, ?_, ?_⟩
    · rw [List.length_append, List.length_append, List.length_singleton]
      show _ ≤ x1.size + x2.size + 1
      omega
    · exact marks_app (marks_app (marks_mono (Same.tup (S46.trans S7B)) hm) (marks_mono (Same.tup S7B) hrm)) (marks_one ⟨t8, _, _, rfl, Same.sqT (s9.trans (sA.trans sB)) e8⟩)
theorem k_shown_zero (T : Txt w K mg) : Cal P w K mg base 1 "_law_shown" (spShown K 0) := by
  obtain ⟨fd, F⟩ := T.d__law_shown
  refine ⟨_, fd, ["_law_expression_here"], fn_ok F sc__law_shown (fun vs H Q E h => ?_) (fun cdv A outer s H vs Q E hr h => ?_), T.g__law_shown, F.kp, F.bindsN (fun _ _ _ _ _ _ us hl => match us, hl with | [_], _ => rfl)⟩
  · obtain ⟨_, _, rfl, _⟩ := h
    rfl
  obtain ⟨_, _, _, _, _, _, h, _⟩ := h
  exact absurd h (Nat.not_lt_zero _)
theorem k_law_shown (T : Txt w K mg) : ∀ n, Cal P w K mg base (2 * n + 1) "_law_shown" (spShown K n)
  | 0 => k_shown_zero T
  | n + 1 => k_shown_of T (k_law_shown T n) (k_lside_of T (k_law_shown T n))
end
end Wf


set_option Elab.async false
set_option linter.all false
set_option maxRecDepth 100000
set_option maxHeartbeats 4000000
namespace Wf
open PySem PySem.Spec PyProof.Rows L2
open C8 (pe_gc)
local macro_rules | `(tactic| walk_at "w1") => `(tactic| first
  | with_reducible refine i_seq ?_
  | with_reducible refine i_asg ?_
  | with_reducible refine i_gname ?_
  | ((with_reducible refine' i_var ?ivar ?imain); (case ivar => exact rfl))
  | with_reducible refine i_c ?_
  | with_reducible refine i_op ?_
  | with_reducible refine i_if ?_
  | with_reducible refine i_test ?_
  | with_reducible refine i_tB ?_
  | with_reducible refine i_bl ?_
  | with_reducible refine i_ret ?_
  | with_reducible refine i_retN ?_
  | with_reducible refine i_drop ?_
  | with_reducible refine i_next ?_
  | with_reducible refine i_cons ?_
  | with_reducible refine i_nil ?_
  | with_reducible refine i_cb ?_
  | with_reducible refine i_tup ?_
  | with_reducible refine i_lst ?_
  | with_reducible refine i_fld ?_
  | with_reducible refine i_sfld ?_
  | with_reducible refine i_call ?_
  | with_reducible refine i_meth ?_
  | with_reducible refine i_and ?_
  | with_reducible refine i_or ?_
  | with_reducible refine i_not ?_
  | with_reducible refine i_andV ?_
  | with_reducible refine i_orV ?_
  | with_reducible refine i_notV ?_
  | with_reducible refine i_ifV ?_
  | with_reducible refine i_un ?_
  | with_reducible refine i_neg ?_
  | with_reducible refine i_gcons ?_
  | with_reducible refine i_sl ?_
  | with_reducible refine i_part ?_
  | with_reducible refine i_nopart ?_
  | with_reducible refine i_int ?_
  | with_reducible refine i_inS ?_
  | with_reducible refine i_notInS ?_
  | with_reducible refine i_tyS ?_
  | with_reducible refine i_forL ?_
  | with_reducible refine i_forT ?_
  | with_reducible refine i_forR1 ?_
  | with_reducible refine i_bm ?_
  | with_reducible refine i_bm0 ?_
  | with_reducible refine i_gnil ?_
  | with_reducible refine i_rI0 ?_
  | with_reducible refine i_rIsN ?_
  | with_reducible refine i_rNotN ?_
  | with_reducible refine i_rInt ?_
  | ((with_reducible refine i_rEq ?isc ?imain); (case isc => exact rfl))
  | ((with_reducible refine i_rNe ?isc ?imain); (case isc => exact rfl))
  | with_reducible refine i_T rfl ?_
  | with_reducible refine i_F rfl ?_
  | ((refine' i_T ?icnd ?imain); (case icnd => decide +kernel))
  | ((refine' i_F ?icnd ?imain); (case icnd => decide +kernel))
  | fail)
local macro_rules | `(tactic| walk_at "w") => `(tactic| (repeat' walk_at "w1"))
local macro_rules | `(tactic| walk_at "w0") => `(tactic| (simp only [cxOf, L2.start, List.map_cons, List.map_nil, List.length_cons, List.length_nil, Nat.reduceAdd, Nat.reduceSub, Nat.zero_add, List.replicate_zero, List.replicate_succ, List.cons_append, List.nil_append]))
local macro_rules | `(tactic| walk_at "tk") => `(tactic| (simp only [Tk.sign, Tk.val]))
local macro_rules | `(tactic| walk_at "c") => `(tactic| (dsimp only [List.set_cons_zero, List.set_cons_succ, List.cons_append, List.nil_append]))

local macro_rules | `(tactic| walk_at "len") => `(tactic| (refine le_line ?_; (try simp only [str_app, lit1, lit2, lit3, lit4, lit5, lit6, lit7, lit8, lit9, lit10, lit11, lit12, lit13, lit14, lit15, lit16, lit17, lit18]); omega))
local macro_rules | `(tactic| walk_at "s1") => `(tactic| first
  | walk_at "w1"
  | (refine i_rAddS (by walk_at "len") ?_)
  | fail)
local macro_rules | `(tactic| walk_at "s") => `(tactic| (repeat' walk_at "s1"))
local macro_rules | `(tactic| walk_at "l1") => `(tactic| first
  | with_reducible refine i_lst2 ?_
  | with_reducible refine i_tup2 ?_
  | with_reducible refine i_mod (by decide) ?_
  | with_reducible refine i_div ⟨by decide, by decide⟩ ?_
  | with_reducible refine i_mulR ⟨by decide, by decide⟩ ?_
  | with_reducible refine i_mulL ⟨by decide, by decide⟩ ?_
  | with_reducible refine i_pow ⟨by decide, by decide, by decide⟩ ?_
  | with_reducible refine i_lcT ?_
  | with_reducible refine i_lcL ?_
  | with_reducible refine i_lcR ?_
  | with_reducible refine i_M1 ?_
  | walk_at "w1"
  | (refine i_rAddS (by walk_at "len") ?_)
  | fail)
local macro_rules | `(tactic| walk_at "l") => `(tactic| (repeat' walk_at "l1"))

section
variable {P : Program} {w : World} {K : PySem.W.Frag} {mg : Str → Option Value} {base : Heap} {H0 Hb H H' : Hp}
/-! _law_cell -/
def spCell (K : PySem.W.Frag) : Sp := fun vs H Q _ => ∃ (a : Addr) (ns : List Int) (k : Nat), vs = [.ref a, .int k] ∧ SqL K H a (ns.map V.int) ∧ ∀ n : Int, Q (.int n) H
theorem sc__law_cell : FnScope (["_law_script", "_law_k"] : List Str) (["_law_script", "_law_k"] : List Str) (defScope s__law_cell) := ⟨rfl, rfl, rfl, by decide +kernel, rfl, by decide +kernel, by decide +kernel⟩
theorem k_law_cell (T : Txt w K mg) : Cal P w K mg base 1 "_law_cell" (spCell K) := by
  obtain ⟨fd, F⟩ := T.d__law_cell
  refine ⟨_, fd, ["_law_script", "_law_k"], fn_ok F sc__law_cell (fun vs H Q E h => ?_) (fun cdv A outer s H vs Q E hr h => ?_), T.g__law_cell, F.kp, F.bindsN (fun _ _ _ _ _ _ us hl => match us, hl with | [_, _], _ => rfl)⟩
  · obtain ⟨_, _, _, rfl, _⟩ := h
    rfl
  obtain ⟨a, ns, k, rfl, ha, q⟩ := h
  refine ⟨_, (pss_cons (ps_if (pt_cmpR op_lt (pv 1) (pe_callB call_len' rfl T.z_len PySem.boot_len (pa_cons (pv 0) pa_nil)) (nomark _)) (pss_one (ps_ret (pe_callTy call_int' rfl T.z_int (by decide +kernel) (pa_cons (pe_ix ix_list (pv 0) (pv 1) (fun _ _ => rfl)) pa_nil)))) pss_nil)
    (pss_one (ps_ret pe_int))), ?_⟩
  walk_at "w0"
  walk_at "l"
  refine i_rLen (.inl ha) ?_
  walk_at "l"
  refine i_C (fun hc => ?_) (fun hc => ?_)
  · have hk : k < ns.length := by
      have := of_decide_eq_true hc
      rw [List.length_map] at this
      omega
    walk_at "l"
    refine i_rIxL ha (v := V.int ns[k]) (atI_nat (by rw [List.getElem?_map, List.getElem?_eq_getElem hk]; rfl)) ?_
    walk_at "l"
    exact q _
  · walk_at "l"
    exact q _
/-! _law_draws -/
def DrawOk (ds : List Int) : Prop := ∀ d ∈ ds, 0 ≤ d ∧ d < 1000
def spDraws (K : PySem.W.Frag) : Sp := fun vs H Q _ => ∃ (c : Int) (m : Nat), vs = [.int c, .int m] ∧ m ≤ 1000 ∧ ∀ H' l ds, Same H H' → H' l = some (.lst (ds.map V.int)) → ds.length = m → DrawOk ds → Q (.ref l) H'
theorem sc__law_draws : FnScope (["_law_cell_here", "_law_many", "_law_rows", "_law_rest", "_law_k", "_law_state"] : List Str) (["_law_cell_here", "_law_many"] : List Str) (defScope s__law_draws) := ⟨rfl, rfl, rfl, by decide +kernel, rfl, by decide +kernel, by decide +kernel⟩
theorem k_law_draws (T : Txt w K mg) : Cal P w K mg base 1 "_law_draws" (spDraws K) := by
  obtain ⟨fd, F⟩ := T.d__law_draws
  refine ⟨_, fd, ["_law_cell_here", "_law_many"], fn_ok F sc__law_draws (fun vs H Q E h => ?_) (fun cdv A outer s H vs Q E hr h => ?_), T.g__law_draws, F.kp, F.bindsN (fun _ _ _ _ _ _ us hl => match us, hl with | [_, _], _ => rfl)⟩
  · obtain ⟨_, _, rfl, _⟩ := h
    rfl
  obtain ⟨c, m, rfl, hm, q⟩ := h
  refine ⟨_, (pss_cons (ps_set (i := 2) sc__law_draws.nd rfl (by first | exact Or.inl rfl | exact Or.inr rfl) (pe_lst pa_nil))
    (pss_cons (ps_set (i := 3) sc__law_draws.nd rfl (by first | exact Or.inl rfl | exact Or.inr rfl) (pe_callTy call_int' rfl T.z_int (by decide +kernel) (pa_cons (pv 0) pa_nil)))
    (pss_cons (ps_if (pt_cmpR op_ge (pv 3) (pe_op op_pow pe_int pe_int) (nomark _)) (pss_one (ps_for PassesOwn.never rfl (pi_range1 rfl T.z_range (pa_cons (pv 1) pa_nil)) (pg_name (i := 4) sc__law_draws.nd rfl (by first | exact Or.inl rfl | exact Or.inr rfl)) (pss_one (ps_if (pt_cmpR op_gt (pv 3) pe_int (nomark _)) (pss_cons (ps_expr (pe_bm PySem.F.plainAttrs_list PySem.F.slot_list_append PySem.F.type_list_append mt_append (pv 2) (pa_cons (pe_op op_mod (pe_callTy call_int' rfl T.z_int (by decide +kernel) (pa_cons (pv 3) pa_nil)) pe_int) pa_nil)))
    (pss_one (ps_set (i := 3) sc__law_draws.nd rfl (by first | exact Or.inl rfl | exact Or.inr rfl) (pe_op op_fdiv (pv 3) pe_int)))) pss_nil)))) pss_nil)
    (pss_cons (ps_set (i := 5) sc__law_draws.nd rfl (by first | exact Or.inl rfl | exact Or.inr rfl) (pe_op op_mod (pe_callTy call_int' rfl T.z_int (by decide +kernel) (pa_cons (pe_op op_add (pe_op op_mul (pe_callTy call_int' rfl T.z_int (by decide +kernel) (pa_cons (pv 0) pa_nil)) pe_int) pe_int) pa_nil)) pe_int))
    (pss_cons (ps_for PassesOwn.never rfl (pi_range1 rfl T.z_range (pa_cons (pv 1) pa_nil)) (pg_name (i := 4) sc__law_draws.nd rfl (by first | exact Or.inl rfl | exact Or.inr rfl)) (pss_cons (ps_set (i := 5) sc__law_draws.nd rfl (by first | exact Or.inl rfl | exact Or.inr rfl) (pe_op op_mod (pe_callTy call_int' rfl T.z_int (by decide +kernel) (pa_cons (pe_op op_add (pe_op op_add (pe_op op_mul (pv 5) pe_int) (pe_op op_mul (pv 4) pe_int)) pe_int) pa_nil)) pe_int))
    (pss_one (ps_if (pt_cmpR op_lt (pe_callB call_len' rfl T.z_len PySem.boot_len (pa_cons (pv 2) pa_nil)) (pv 1) (nomark _)) (pss_one (ps_expr (pe_bm PySem.F.plainAttrs_list PySem.F.slot_list_append PySem.F.type_list_append mt_append (pv 2) (pa_cons (pe_op op_mod (pe_callTy call_int' rfl T.z_int (by decide +kernel) (pa_cons (pe_op op_mod (pe_callTy call_int' rfl T.z_int (by decide +kernel) (pa_cons (pe_op op_add (pe_op op_mul (pv 5) pe_int) pe_int) pa_nil)) pe_int) pa_nil)) pe_int) pa_nil)))) pss_nil))))
    (pss_one (ps_ret (pv 2)))))))), ?_⟩
  walk_at "w0"
  walk_at "l"
  refine i_LstQ (by simp) fun l G0 n0 s0 e0 => ?_
  walk_at "l"
  refine i_ifN (fun σ H1 => ∃ (ds : List Int) (rr : Int) (x4 : Option V), σ = [some (.int c), some (.int m), some (.ref l), some (.int rr), x4, none] ∧ Same H H1 ∧ H1 l = some (.lst (ds.map V.int)) ∧ ds.length ≤ m ∧ DrawOk ds) ?_ ?_
  · rintro σ H1 ⟨ds, rr, x4, rfl, s1, e1, hl, hd⟩
    walk_at "l"
    refine ⟨m, rfl, by omega, by omega, i_range (lo := 0) (n := ((m : Int)).toNat) (fun i σ H2 => ∃ (ds : List Int) (st : Int) (x4 : Option V), σ = [some (.int c), some (.int m), some (.ref l), some (.int rr), x4, some (.int st)] ∧ Same H H2 ∧ H2 l = some (.lst (ds.map V.int)) ∧ ds.length ≤ m ∧ i ≤ ds.length ∧ DrawOk ds) ⟨ds, _, x4, rfl, s1, e1, hl, Nat.zero_le _, hd⟩ ?_ ?_⟩
    · rintro i σ H2 hi ⟨ds, st, x4, rfl, s2, e2, hl, hil, hd⟩
      walk_at "l"
      refine i_rLen (.inl (SqL.of e2)) ?_
      walk_at "l"
      refine i_C (fun hc => ?_) (fun hc => ?_)
      · have hc2 := of_decide_eq_true hc
        rw [List.length_map] at hc2
        walk_at "l"
        refine i_tyL (SqL.of e2) ?_
        walk_at "l"
        refine i_append e2 (lt_line (by rw [List.length_map]; omega)) ?_
        walk_at "l"
        refine ⟨ds ++ [_], _, _, rfl, same_keep s2 n0, by rw [List.map_append]; exact upd_same, by rw [List.length_append, List.length_singleton]; omega, by rw [List.length_append, List.length_singleton]; omega, ?_⟩
        intro d hd'
        rcases List.mem_append.mp hd' with h | h
        · exact hd d h
        · rw [List.mem_singleton.mp h]
          exact ⟨Int.emod_nonneg _ (by decide), Int.emod_lt_of_pos _ (by decide)⟩
      · have hc2 := of_decide_eq_false hc
        rw [List.length_map] at hc2
        walk_at "l"
        exact ⟨ds, _, _, rfl, s2, e2, hl, by omega, hd⟩
    · rintro σ H2 ⟨ds, st, x4, rfl, s2, e2, hl, hil, hd⟩
      walk_at "l"
      exact q H2 l ds s2 e2 (by omega) hd
  · intro N hN
    refine i_C (fun hc => ?_) (fun hc => ?_)
    · walk_at "l"
      refine ⟨m, rfl, by omega, by omega, i_range (lo := 0) (n := ((m : Int)).toNat) (fun i σ H2 => ∃ (ds : List Int) (rr : Int) (x4 : Option V), σ = [some (.int c), some (.int m), some (.ref l), some (.int rr), x4, none] ∧ Same H H2 ∧ H2 l = some (.lst (ds.map V.int)) ∧ ds.length ≤ i ∧ DrawOk ds) ⟨[], c, none, rfl, s0, e0, Nat.zero_le _, fun d hd => by cases hd⟩ ?_ ?_⟩
      · rintro i σ H2 hi ⟨ds, rr, x4, rfl, s2, e2, hl, hd⟩
        walk_at "l"
        refine i_C (fun hc => ?_) (fun hc => ?_)
        · walk_at "l"
          refine i_tyL (SqL.of e2) ?_
          walk_at "l"
          refine i_append e2 (lt_line (by rw [List.length_map]; omega)) ?_
          walk_at "l"
          refine ⟨ds ++ [_], _, _, rfl, same_keep s2 n0, by rw [List.map_append]; exact upd_same, by rw [List.length_append, List.length_singleton]; omega, ?_⟩
          intro d hd'
          rcases List.mem_append.mp hd' with h | h
          · exact hd d h
          · rw [List.mem_singleton.mp h]
            exact ⟨Int.emod_nonneg _ (by decide), Int.emod_lt_of_pos _ (by decide)⟩
        · walk_at "l"
          exact ⟨ds, _, _, rfl, s2, e2, by omega, hd⟩
      · rintro σ H2 ⟨ds, rr, x4, rfl, s2, e2, hl, hd⟩
        exact hN _ _ ⟨ds, rr, x4, rfl, s2, e2, by omega, hd⟩
    · walk_at "l"
      exact hN _ _ ⟨[], c, none, rfl, s0, e0, Nat.zero_le _, fun d hd => by cases hd⟩
end
end Wf


set_option Elab.async false
set_option linter.all false
set_option maxRecDepth 100000
set_option maxHeartbeats 4000000
namespace Wf
open PySem PySem.Spec PyProof.Rows L2
open C8 (pe_gc)
local macro_rules | `(tactic| walk_at "w1") => `(tactic| first
  | with_reducible refine i_seq ?_
  | with_reducible refine i_asg ?_
  | with_reducible refine i_gname ?_
  | ((with_reducible refine' i_var ?ivar ?imain); (case ivar => exact rfl))
  | with_reducible refine i_c ?_
  | with_reducible refine i_op ?_
  | with_reducible refine i_if ?_
  | with_reducible refine i_test ?_
  | with_reducible refine i_tB ?_
  | with_reducible refine i_bl ?_
  | with_reducible refine i_ret ?_
  | with_reducible refine i_retN ?_
  | with_reducible refine i_drop ?_
  | with_reducible refine i_next ?_
  | with_reducible refine i_cons ?_
  | with_reducible refine i_nil ?_
  | with_reducible refine i_cb ?_
  | with_reducible refine i_tup ?_
  | with_reducible refine i_lst ?_
  | with_reducible refine i_fld ?_
  | with_reducible refine i_sfld ?_
  | with_reducible refine i_call ?_
  | with_reducible refine i_meth ?_
  | with_reducible refine i_and ?_
  | with_reducible refine i_or ?_
  | with_reducible refine i_not ?_
  | with_reducible refine i_andV ?_
  | with_reducible refine i_orV ?_
  | with_reducible refine i_notV ?_
  | with_reducible refine i_ifV ?_
  | with_reducible refine i_un ?_
  | with_reducible refine i_neg ?_
  | with_reducible refine i_gcons ?_
  | with_reducible refine i_sl ?_
  | with_reducible refine i_part ?_
  | with_reducible refine i_nopart ?_
  | with_reducible refine i_int ?_
  | with_reducible refine i_inS ?_
  | with_reducible refine i_notInS ?_
  | with_reducible refine i_tyS ?_
  | with_reducible refine i_forL ?_
  | with_reducible refine i_forT ?_
  | with_reducible refine i_forR1 ?_
  | with_reducible refine i_bm ?_
  | with_reducible refine i_bm0 ?_
  | with_reducible refine i_gnil ?_
  | with_reducible refine i_rI0 ?_
  | with_reducible refine i_rIsN ?_
  | with_reducible refine i_rNotN ?_
  | with_reducible refine i_rInt ?_
  | ((with_reducible refine i_rEq ?isc ?imain); (case isc => exact rfl))
  | ((with_reducible refine i_rNe ?isc ?imain); (case isc => exact rfl))
  | with_reducible refine i_T rfl ?_
  | with_reducible refine i_F rfl ?_
  | ((refine' i_T ?icnd ?imain); (case icnd => decide +kernel))
  | ((refine' i_F ?icnd ?imain); (case icnd => decide +kernel))
  | fail)
local macro_rules | `(tactic| walk_at "w") => `(tactic| (repeat' walk_at "w1"))
local macro_rules | `(tactic| walk_at "w0") => `(tactic| (simp only [cxOf, L2.start, List.map_cons, List.map_nil, List.length_cons, List.length_nil, Nat.reduceAdd, Nat.reduceSub, Nat.zero_add, List.replicate_zero, List.replicate_succ, List.cons_append, List.nil_append]))
local macro_rules | `(tactic| walk_at "tk") => `(tactic| (simp only [Tk.sign, Tk.val]))
local macro_rules | `(tactic| walk_at "c") => `(tactic| (dsimp only [List.set_cons_zero, List.set_cons_succ, List.cons_append, List.nil_append]))

local macro_rules | `(tactic| walk_at "len") => `(tactic| (refine le_line ?_; (try simp only [str_app, lit1, lit2, lit3, lit4, lit5, lit6, lit7, lit8, lit9, lit10, lit11, lit12, lit13, lit14, lit15, lit16, lit17, lit18]); omega))
local macro_rules | `(tactic| walk_at "s1") => `(tactic| first
  | walk_at "w1"
  | (refine i_rAddS (by walk_at "len") ?_)
  | fail)
local macro_rules | `(tactic| walk_at "s") => `(tactic| (repeat' walk_at "s1"))
local macro_rules | `(tactic| walk_at "l1") => `(tactic| first
  | with_reducible refine i_lst2 ?_
  | with_reducible refine i_tup2 ?_
  | with_reducible refine i_mod (by decide) ?_
  | with_reducible refine i_div ⟨by decide, by decide⟩ ?_
  | with_reducible refine i_mulR ⟨by decide, by decide⟩ ?_
  | with_reducible refine i_mulL ⟨by decide, by decide⟩ ?_
  | with_reducible refine i_pow ⟨by decide, by decide, by decide⟩ ?_
  | with_reducible refine i_lcT ?_
  | with_reducible refine i_lcL ?_
  | with_reducible refine i_lcR ?_
  | with_reducible refine i_M1 ?_
  | walk_at "w1"
  | (refine i_rAddS (by walk_at "len") ?_)
  | fail)
local macro_rules | `(tactic| walk_at "l") => `(tactic| (repeat' walk_at "l1"))

section
variable {P : Program} {w : World} {K : PySem.W.Frag} {mg : Str → Option Value} {base : Heap} {H0 Hb H H' : Hp}
/-! _law_name -/
def Small (s : Str) : Prop := NameOk s ∧ s.length ≠ 6
theorem small_label {s : Str} (h : Small s) : LabelOk s := ⟨h.1, fun e => h.2 (by rw [e]; decide +kernel)⟩
theorem let_at {i : Int} (h0 : 0 ≤ i) (h : i < 37) : ∃ c, atI (("abcdefghijklmnopqrstuvwxyz0123456789_" : Str)).cps.toList i = some c ∧ c ∈ wordCs ∧ (i < 26 → c ∈ letters) := by
  obtain ⟨n, rfl⟩ := Int.eq_ofNat_of_zero_le h0
  have key : ∀ n : Fin 37, ∃ c, (("abcdefghijklmnopqrstuvwxyz0123456789_" : Str)).cps.toList[n.val]? = some c ∧ c ∈ wordCs ∧ (n.val < 26 → c ∈ letters) := by
    have k2 : ∀ n : Fin 37, ((("abcdefghijklmnopqrstuvwxyz0123456789_" : Str)).cps.toList[n.val]?).any (fun c => decide (c ∈ wordCs ∧ (n.val < 26 → c ∈ letters))) = true := by decide +kernel
    intro n
    have := k2 n
    rw [Option.any_eq_true] at this
    obtain ⟨c, e, hc⟩ := this
    exact ⟨c, e, of_decide_eq_true hc⟩
  obtain ⟨c, e, h1, h2⟩ := key ⟨n, by omega⟩
  exact ⟨c, atI_nat e, h1, fun hn => h2 (by show n < 26; omega)⟩
theorem worth_at {i : Int} (h0 : 0 ≤ i) (h : i < 37) : ∃ c, atI (("0123456789_abcdefghijklmnopqrstuvwxyz" : Str)).cps.toList i = some c ∧ c ∈ wordCs := by
  obtain ⟨n, rfl⟩ := Int.eq_ofNat_of_zero_le h0
  have key : ∀ n : Fin 37, ∃ c, (("0123456789_abcdefghijklmnopqrstuvwxyz" : Str)).cps.toList[n.val]? = some c ∧ c ∈ wordCs := by
    have k2 : ∀ n : Fin 37, ((("0123456789_abcdefghijklmnopqrstuvwxyz" : Str)).cps.toList[n.val]?).any (fun c => decide (c ∈ wordCs)) = true := by decide +kernel
    intro n
    have := k2 n
    rw [Option.any_eq_true] at this
    obtain ⟨c, e, hc⟩ := this
    exact ⟨c, e, of_decide_eq_true hc⟩
  obtain ⟨c, e, h1⟩ := key ⟨n, by omega⟩
  exact ⟨c, atI_nat e, h1⟩
theorem ne_app (a b : Str) : (a ++ b).cps.toList = a.cps.toList ++ b.cps.toList := TL.tl_append a b
theorem one_cps (c : Nat) : (⟨#[c]⟩ : Str).cps.toList = [c] := rfl
theorem one_len (c : Nat) : (⟨#[c]⟩ : Str).length = 1 := rfl
theorem small_ext {s : Str} (h : NameOk s) (t : Str) (ht : ∀ y ∈ t.cps.toList, y ∈ wordCs) (hl : s.length + t.length ≤ 20) : NameOk (s ++ t) := by
  obtain ⟨c, x, e, hc, hx, hn⟩ := h
  have e1 : s.length = x.length + 1 := by rw [TL.len_tl]; show s.cps.toList.length = _; rw [e]; rfl
  have e2 : t.length = t.cps.toList.length := TL.len_tl t
  refine ⟨c, x ++ t.cps.toList, by rw [ne_app, e]; rfl, hc, ?_, by rw [List.length_append]; omega⟩
  intro y hy
  rcases List.mem_append.mp hy with h | h
  · exact hx y h
  · exact ht y h
theorem mul_ok (c : Nat) {n : Int} (h : n = 17 ∨ n = 19) : MulOk (⟨#[c]⟩ : Str) n := by
  rcases h with rfl | rfl
  · exact ⟨by decide +kernel, fun _ _ => by rw [one_len]; decide +kernel, fun _ _ => by rw [one_len]; decide +kernel⟩
  · exact ⟨by decide +kernel, fun _ _ => by rw [one_len]; decide +kernel, fun _ _ => by rw [one_len]; decide +kernel⟩
theorem mul_17 (c : Nat) : Txt.mul (⟨#[c]⟩ : Str) 17 = ⟨(List.replicate 17 c).toArray⟩ := by kernel_rfl
theorem mul_19 (c : Nat) : Txt.mul (⟨#[c]⟩ : Str) 19 = ⟨(List.replicate 19 c).toArray⟩ := by kernel_rfl
theorem i_mulS {c : Nat} {n : Int} {Q : VK} (h : n = 17 ∨ n = 19) (q : Q (.str (Txt.mul (⟨#[c]⟩ : Str) n)) H) : rMulS (.str ⟨#[c]⟩) (.int n) H Q := ⟨_, _, rfl, rfl, mul_ok c h, q⟩
theorem i_mul17 {c : Nat} {Q : VK} (hc : c ∈ wordCs) (q : ∀ s : Str, s.length = 17 → (∀ y ∈ s.cps.toList, y ∈ wordCs) → Q (.str s) H) : rMulS (.str ⟨#[c]⟩) (.int 17) H Q := by
  refine i_mulS (.inl rfl) ?_
  have e := mul_17 c
  have h : (∀ y ∈ (Txt.mul (⟨#[c]⟩ : Str) 17).cps.toList, y = c) := by
    rw [e]
    intro y hy
    exact (List.mem_replicate.mp hy).2
  refine q _ ?_ fun y hy => by rw [h y hy]; exact hc
  rw [e, TL.len_tl]
  show (List.replicate 17 c).length = 17
  exact List.length_replicate
theorem i_mul19 {c : Nat} {Q : VK} (hc : c ∈ wordCs) (q : ∀ s : Str, s.length = 19 → (∀ y ∈ s.cps.toList, y ∈ wordCs) → Q (.str s) H) : rMulS (.str ⟨#[c]⟩) (.int 19) H Q := by
  refine i_mulS (.inr rfl) ?_
  have e := mul_19 c
  have h : (∀ y ∈ (Txt.mul (⟨#[c]⟩ : Str) 19).cps.toList, y = c) := by
    rw [e]
    intro y hy
    exact (List.mem_replicate.mp hy).2
  refine q _ ?_ fun y hy => by rw [h y hy]; exact hc
  rw [e, TL.len_tl]
  show (List.replicate 19 c).length = 19
  exact List.length_replicate
theorem under : ("_" : Str) = ⟨#[95]⟩ := by decide +kernel
def spName : Sp := fun vs H Q _ => ∃ (a b : Int), vs = [.int a, .int b] ∧ 0 ≤ a ∧ a < 1000 ∧ 0 ≤ b ∧ b < 1000 ∧ ∀ s, Small s → Q (.str s) H
theorem sc__law_name : FnScope (["_law_first", "_law_second", "_law_letters", "_law_text"] : List Str) (["_law_first", "_law_second"] : List Str) (defScope s__law_name) := ⟨rfl, rfl, rfl, by decide +kernel, rfl, by decide +kernel, by decide +kernel⟩
theorem k_law_name (T : Txt w K mg) : Cal P w K mg base 1 "_law_name" spName := by
  obtain ⟨fd, F⟩ := T.d__law_name
  refine ⟨_, fd, ["_law_first", "_law_second"], fn_ok F sc__law_name (fun vs H Q E h => ?_) (fun cdv A outer s H vs Q E hr h => ?_), T.g__law_name, F.kp, F.bindsN (fun _ _ _ _ _ _ us hl => match us, hl with | [_, _], _ => rfl)⟩
  · obtain ⟨_, _, rfl, _⟩ := h
    rfl
  obtain ⟨a, b, rfl, ha0, ha1, hb0, hb1, q⟩ := h
  obtain ⟨c1, h1, h1w, h1l⟩ := let_at (i := a % 26) (by omega) (by omega)
  obtain ⟨c2, h2, h2w, _⟩ := let_at (i := b / 5 % 37) (by omega) (by omega)
  obtain ⟨c3, h3, h3w, _⟩ := let_at (i := a / 26 % 37) (by omega) (by omega)
  have hz : (("abcdefghijklmnopqrstuvwxyz0123456789_" : Str)).length ≤ sizeLine := le_line (by decide +kernel)
  have N1 : NameOk (⟨#[c1]⟩ : Str) := ⟨c1, [], rfl, h1l (by omega), (fun y hy => by cases hy), Nat.zero_le _⟩
  refine ⟨_, (pss_cons (ps_set (i := 2) sc__law_name.nd rfl (by first | exact Or.inl rfl | exact Or.inr rfl) pe_str)
    (pss_cons (ps_set (i := 3) sc__law_name.nd rfl (by first | exact Or.inl rfl | exact Or.inr rfl) (pe_ix ix_str (pv 2) (pe_op op_mod (pe_callTy call_int' rfl T.z_int (by decide +kernel) (pa_cons (pv 0) pa_nil)) pe_int) (fun _ _ => rfl)))
    (pss_cons (ps_if (pt_cmpR op_eq (pe_op op_mod (pe_callTy call_int' rfl T.z_int (by decide +kernel) (pa_cons (pv 1) pa_nil)) pe_int) pe_int (nomark _)) (pss_one (ps_ret (pv 3))) pss_nil)
    (pss_cons (ps_set (i := 3) sc__law_name.nd rfl (by first | exact Or.inl rfl | exact Or.inr rfl) (pe_op op_addS (pv 3) (pe_ix ix_str (pv 2) (pe_op op_mod (pe_op op_fdiv (pe_callTy call_int' rfl T.z_int (by decide +kernel) (pa_cons (pv 1) pa_nil)) pe_int) pe_int) (fun _ _ => rfl))))
    (pss_cons (ps_if (pt_cmpR op_eq (pe_op op_mod (pe_callTy call_int' rfl T.z_int (by decide +kernel) (pa_cons (pv 1) pa_nil)) pe_int) pe_int (nomark _)) (pss_one (ps_ret (pv 3))) pss_nil)
    (pss_cons (ps_if (pt_cmpR op_eq (pe_op op_mod (pe_callTy call_int' rfl T.z_int (by decide +kernel) (pa_cons (pv 1) pa_nil)) pe_int) pe_int (nomark _)) (pss_one (ps_ret (pe_op op_addS (pe_op op_addS (pv 3) (pe_op op_mulS pe_str pe_int)) (pe_ix ix_str (pv 2) (pe_op op_mod (pe_op op_fdiv (pe_callTy call_int' rfl T.z_int (by decide +kernel) (pa_cons (pv 0) pa_nil)) pe_int) pe_int) (fun _ _ => rfl))))) pss_nil)
    (pss_one (ps_ret (pe_op op_addS (pv 3) (pe_ix ix_str (pv 2) (pe_op op_mod (pe_op op_fdiv (pe_callTy call_int' rfl T.z_int (by decide +kernel) (pa_cons (pv 0) pa_nil)) pe_int) pe_int) (fun _ _ => rfl))))))))))), ?_⟩
  walk_at "w0"
  walk_at "l"
  refine i_rIxS hz h1 ?_
  walk_at "l"
  refine i_C (fun hc => ?_) (fun hc => ?_)
  · walk_at "l"
    exact q _ ⟨N1, by rw [one_len]; decide⟩
  walk_at "l"
  refine i_rIxS hz h2 ?_
  refine i_rAddS (le_line (by decide : 1 + 1 ≤ 100000)) ?_
  have N2 : NameOk ((⟨#[c1]⟩ : Str) ++ (⟨#[c2]⟩ : Str)) := small_ext N1 _ (fun y hy => by rw [one_cps, List.mem_singleton] at hy; rw [hy]; exact h2w) (by rw [one_len, one_len]; decide)
  walk_at "l"
  refine i_C (fun hc => ?_) (fun hc => ?_)
  · walk_at "l"
    exact q _ ⟨N2, by rw [str_app, one_len, one_len]; decide⟩
  walk_at "l"
  refine i_C (fun hc => ?_) (fun hc => ?_)
  · walk_at "l"
    rw [under]
    refine i_mul17 (by decide) fun u hu1 hu2 => ?_
    refine i_rAddS (le_line (by rw [str_app, one_len, one_len, hu1]; decide)) ?_
    walk_at "l"
    refine i_rIxS hz h3 ?_
    refine i_rAddS (le_line (by rw [str_app, str_app, one_len, one_len, one_len, hu1]; decide)) ?_
    have N3 := small_ext N2 u hu2 (by rw [str_app, one_len, one_len, hu1]; decide)
    exact q _ ⟨small_ext N3 _ (fun y hy => by rw [one_cps, List.mem_singleton] at hy; rw [hy]; exact h3w) (by rw [str_app, str_app, one_len, one_len, one_len, hu1]; decide), by rw [str_app, str_app, str_app, one_len, one_len, one_len, hu1]; decide⟩
  · walk_at "l"
    refine i_rIxS hz h3 ?_
    refine i_rAddS (le_line (by decide : 2 + 1 ≤ 100000)) ?_
    exact q _ ⟨small_ext N2 _ (fun y hy => by rw [one_cps, List.mem_singleton] at hy; rw [hy]; exact h3w) (by rw [str_app, one_len, one_len, one_len]; decide), by rw [str_app, str_app, one_len, one_len, one_len]; decide⟩
/-! _law_worth -/
theorem worth_one {c : Nat} (h : c ∈ wordCs) : WorthOk (⟨#[c]⟩ : Str) := ⟨fun y hy => by rw [one_cps, List.mem_singleton] at hy; rw [hy]; exact h, by show 1 ≤ 20; decide⟩
theorem worth_ext {s t : Str} (h : WorthOk s) (ht : ∀ y ∈ t.cps.toList, y ∈ wordCs) (hl : s.cps.toList.length + t.cps.toList.length ≤ 20) : WorthOk (s ++ t) := by
  refine ⟨fun y hy => ?_, by rw [ne_app, List.length_append]; exact hl⟩
  rw [ne_app] at hy
  rcases List.mem_append.mp hy with k | k
  · exact h.1 y k
  · exact ht y k
def spWorth : Sp := fun vs H Q _ => ∃ (a b : Int), vs = [.int a, .int b] ∧ 0 ≤ a ∧ a < 1000 ∧ 0 ≤ b ∧ b < 1000 ∧ ∀ s, WorthOk s → Q (.str s) H
theorem sc__law_worth : FnScope (["_law_first", "_law_second", "_law_letters", "_law_text"] : List Str) (["_law_first", "_law_second"] : List Str) (defScope s__law_worth) := ⟨rfl, rfl, rfl, by decide +kernel, rfl, by decide +kernel, by decide +kernel⟩
theorem k_law_worth (T : Txt w K mg) : Cal P w K mg base 1 "_law_worth" spWorth := by
  obtain ⟨fd, F⟩ := T.d__law_worth
  refine ⟨_, fd, ["_law_first", "_law_second"], fn_ok F sc__law_worth (fun vs H Q E h => ?_) (fun cdv A outer s H vs Q E hr h => ?_), T.g__law_worth, F.kp, F.bindsN (fun _ _ _ _ _ _ us hl => match us, hl with | [_, _], _ => rfl)⟩
  · obtain ⟨_, _, rfl, _⟩ := h
    rfl
  obtain ⟨a, b, rfl, ha0, ha1, hb0, hb1, q⟩ := h
  obtain ⟨c1, h1, h1w⟩ := worth_at (i := a % 37) (by omega) (by omega)
  obtain ⟨c2, h2, h2w⟩ := worth_at (i := b / 4 % 37) (by omega) (by omega)
  have hz : (("0123456789_abcdefghijklmnopqrstuvwxyz" : Str)).length ≤ sizeLine := le_line (by decide +kernel)
  have W2 : ∀ y ∈ (⟨#[c2]⟩ : Str).cps.toList, y ∈ wordCs := fun y hy => by rw [one_cps, List.mem_singleton] at hy; rw [hy]; exact h2w
  refine ⟨_, (pss_cons (ps_set (i := 2) sc__law_worth.nd rfl (by first | exact Or.inl rfl | exact Or.inr rfl) pe_str)
    (pss_cons (ps_set (i := 3) sc__law_worth.nd rfl (by first | exact Or.inl rfl | exact Or.inr rfl) (pe_ix ix_str (pv 2) (pe_op op_mod (pe_callTy call_int' rfl T.z_int (by decide +kernel) (pa_cons (pv 0) pa_nil)) pe_int) (fun _ _ => rfl)))
    (pss_cons (ps_if (pt_cmpR op_eq (pe_op op_mod (pe_callTy call_int' rfl T.z_int (by decide +kernel) (pa_cons (pv 1) pa_nil)) pe_int) pe_int (nomark _)) (pss_one (ps_ret (pv 3))) pss_nil)
    (pss_cons (ps_if (pt_cmpR op_eq (pe_op op_mod (pe_callTy call_int' rfl T.z_int (by decide +kernel) (pa_cons (pv 1) pa_nil)) pe_int) pe_int (nomark _)) (pss_one (ps_ret (pe_op op_addS (pe_op op_mulS (pv 3) pe_int) (pe_ix ix_str (pv 2) (pe_op op_mod (pe_op op_fdiv (pe_callTy call_int' rfl T.z_int (by decide +kernel) (pa_cons (pv 1) pa_nil)) pe_int) pe_int) (fun _ _ => rfl))))) pss_nil)
    (pss_one (ps_ret (pe_op op_addS (pv 3) (pe_ix ix_str (pv 2) (pe_op op_mod (pe_op op_fdiv (pe_callTy call_int' rfl T.z_int (by decide +kernel) (pa_cons (pv 1) pa_nil)) pe_int) pe_int) (fun _ _ => rfl))))))))), ?_⟩
  walk_at "w0"
  walk_at "l"
  refine i_rIxS hz h1 ?_
  walk_at "l"
  refine i_C (fun hc => ?_) (fun hc => ?_)
  · walk_at "l"
    exact q _ (worth_one h1w)
  walk_at "l"
  refine i_C (fun hc => ?_) (fun hc => ?_)
  · walk_at "l"
    refine i_mul19 h1w fun u hu1 hu2 => ?_
    walk_at "l"
    refine i_rIxS hz h2 ?_
    refine i_rAddS (le_line (by rw [one_len, hu1]; decide)) ?_
    have e19 : u.cps.toList.length = 19 := by rw [TL.len_tl] at hu1; exact hu1
    exact q _ (worth_ext ⟨hu2, by omega⟩ W2 (by rw [e19]; show 19 + 1 ≤ 20; decide))
  · walk_at "l"
    refine i_rIxS hz h2 ?_
    refine i_rAddS (le_line (by decide : 1 + 1 ≤ 100000)) ?_
    exact q _ (worth_ext (worth_one h1w) W2 (by show 1 + 1 ≤ 20; decide))
/-! _law_number -/
def spNumber : Sp := fun vs H Q _ => ∃ (a b : Int), vs = [.int a, .int b] ∧ 0 ≤ a ∧ a < 1000 ∧ 0 ≤ b ∧ b < 1000 ∧ ∀ n : Int, n.natAbs < 1000000000000000 → Q (.int n) H
theorem sc__law_number : FnScope (["_law_first", "_law_second", "_law_small"] : List Str) (["_law_first", "_law_second"] : List Str) (defScope s__law_number) := ⟨rfl, rfl, rfl, by decide +kernel, rfl, by decide +kernel, by decide +kernel⟩
theorem k_law_number (T : Txt w K mg) : Cal P w K mg base 1 "_law_number" spNumber := by
  obtain ⟨fd, F⟩ := T.d__law_number
  refine ⟨_, fd, ["_law_first", "_law_second"], fn_ok F sc__law_number (fun vs H Q E h => ?_) (fun cdv A outer s H vs Q E hr h => ?_), T.g__law_number, F.kp, F.bindsN (fun _ _ _ _ _ _ us hl => match us, hl with | [_, _], _ => rfl)⟩
  · obtain ⟨_, _, rfl, _⟩ := h
    rfl
  obtain ⟨a, b, rfl, ha0, ha1, hb0, hb1, q⟩ := h
  refine ⟨_, (pss_cons (ps_set (i := 2) sc__law_number.nd rfl (by first | exact Or.inl rfl | exact Or.inr rfl) (pe_op op_mod (pe_callTy call_int' rfl T.z_int (by decide +kernel) (pa_cons (pv 0) pa_nil)) pe_int))
    (pss_cons (ps_if (pt_cmpR op_eq (pe_op op_mod (pe_callTy call_int' rfl T.z_int (by decide +kernel) (pa_cons (pv 1) pa_nil)) pe_int) pe_int (nomark _)) (pss_one (ps_ret (pv 2))) pss_nil)
    (pss_cons (ps_if (pt_cmpR op_eq (pe_op op_mod (pe_callTy call_int' rfl T.z_int (by decide +kernel) (pa_cons (pv 1) pa_nil)) pe_int) pe_int (nomark _)) (pss_one (ps_ret (pe_op op_sub (pe_op op_sub pe_int (pv 2)) (pe_op op_mod (pe_op op_fdiv (pe_callTy call_int' rfl T.z_int (by decide +kernel) (pa_cons (pv 1) pa_nil)) pe_int) pe_int)))) pss_nil)
    (pss_cons (ps_if (pt_cmpR op_eq (pe_op op_mod (pe_callTy call_int' rfl T.z_int (by decide +kernel) (pa_cons (pv 1) pa_nil)) pe_int) pe_int (nomark _)) (pss_one (ps_ret (pe_op op_sub pe_int (pv 2)))) pss_nil)
    (pss_one (ps_ret (pe_op op_add (pe_op op_mul (pe_callTy call_int' rfl T.z_int (by decide +kernel) (pa_cons (pv 0) pa_nil)) pe_int) (pe_callTy call_int' rfl T.z_int (by decide +kernel) (pa_cons (pv 1) pa_nil))))))))), ?_⟩
  walk_at "w0"
  walk_at "l"
  refine i_C (fun hc => ?_) (fun hc => ?_)
  · walk_at "l"
    exact q _ (by omega)
  walk_at "l"
  refine i_C (fun hc => ?_) (fun hc => ?_)
  · walk_at "l"
    exact q _ (by omega)
  walk_at "l"
  refine i_C (fun hc => ?_) (fun hc => ?_)
  · walk_at "l"
    exact q _ (by omega)
  · walk_at "l"
    exact q _ (by omega)
end
end Wf


set_option Elab.async false
set_option linter.all false
set_option maxRecDepth 100000
set_option maxHeartbeats 4000000
namespace Wf
open PySem PySem.Spec PyProof.Rows L2
open C8 (pe_gc)
local macro_rules | `(tactic| walk_at "w1") => `(tactic| first
  | with_reducible refine i_seq ?_
  | with_reducible refine i_asg ?_
  | with_reducible refine i_gname ?_
  | ((with_reducible refine' i_var ?ivar ?imain); (case ivar => exact rfl))
  | with_reducible refine i_c ?_
  | with_reducible refine i_op ?_
  | with_reducible refine i_if ?_
  | with_reducible refine i_test ?_
  | with_reducible refine i_tB ?_
  | with_reducible refine i_bl ?_
  | with_reducible refine i_ret ?_
  | with_reducible refine i_retN ?_
  | with_reducible refine i_drop ?_
  | with_reducible refine i_next ?_
  | with_reducible refine i_cons ?_
  | with_reducible refine i_nil ?_
  | with_reducible refine i_cb ?_
  | with_reducible refine i_tup ?_
  | with_reducible refine i_lst ?_
  | with_reducible refine i_fld ?_
  | with_reducible refine i_sfld ?_
  | with_reducible refine i_call ?_
  | with_reducible refine i_meth ?_
  | with_reducible refine i_and ?_
  | with_reducible refine i_or ?_
  | with_reducible refine i_not ?_
  | with_reducible refine i_andV ?_
  | with_reducible refine i_orV ?_
  | with_reducible refine i_notV ?_
  | with_reducible refine i_ifV ?_
  | with_reducible refine i_un ?_
  | with_reducible refine i_neg ?_
  | with_reducible refine i_gcons ?_
  | with_reducible refine i_sl ?_
  | with_reducible refine i_part ?_
  | with_reducible refine i_nopart ?_
  | with_reducible refine i_int ?_
  | with_reducible refine i_inS ?_
  | with_reducible refine i_notInS ?_
  | with_reducible refine i_tyS ?_
  | with_reducible refine i_forL ?_
  | with_reducible refine i_forT ?_
  | with_reducible refine i_forR1 ?_
  | with_reducible refine i_bm ?_
  | with_reducible refine i_bm0 ?_
  | with_reducible refine i_gnil ?_
  | with_reducible refine i_rI0 ?_
  | with_reducible refine i_rIsN ?_
  | with_reducible refine i_rNotN ?_
  | with_reducible refine i_rInt ?_
  | ((with_reducible refine i_rEq ?isc ?imain); (case isc => exact rfl))
  | ((with_reducible refine i_rNe ?isc ?imain); (case isc => exact rfl))
  | with_reducible refine i_T rfl ?_
  | with_reducible refine i_F rfl ?_
  | ((refine' i_T ?icnd ?imain); (case icnd => decide +kernel))
  | ((refine' i_F ?icnd ?imain); (case icnd => decide +kernel))
  | fail)
local macro_rules | `(tactic| walk_at "w") => `(tactic| (repeat' walk_at "w1"))
local macro_rules | `(tactic| walk_at "w0") => `(tactic| (simp only [cxOf, L2.start, List.map_cons, List.map_nil, List.length_cons, List.length_nil, Nat.reduceAdd, Nat.reduceSub, Nat.zero_add, List.replicate_zero, List.replicate_succ, List.cons_append, List.nil_append]))
local macro_rules | `(tactic| walk_at "tk") => `(tactic| (simp only [Tk.sign, Tk.val]))
local macro_rules | `(tactic| walk_at "c") => `(tactic| (dsimp only [List.set_cons_zero, List.set_cons_succ, List.cons_append, List.nil_append]))

local macro_rules | `(tactic| walk_at "len") => `(tactic| (refine le_line ?_; (try simp only [str_app, lit1, lit2, lit3, lit4, lit5, lit6, lit7, lit8, lit9, lit10, lit11, lit12, lit13, lit14, lit15, lit16, lit17, lit18]); omega))
local macro_rules | `(tactic| walk_at "s1") => `(tactic| first
  | walk_at "w1"
  | (refine i_rAddS (by walk_at "len") ?_)
  | fail)
local macro_rules | `(tactic| walk_at "s") => `(tactic| (repeat' walk_at "s1"))
local macro_rules | `(tactic| walk_at "l1") => `(tactic| first
  | with_reducible refine i_lst2 ?_
  | with_reducible refine i_tup2 ?_
  | with_reducible refine i_mod (by decide) ?_
  | with_reducible refine i_div ⟨by decide, by decide⟩ ?_
  | with_reducible refine i_mulR ⟨by decide, by decide⟩ ?_
  | with_reducible refine i_mulL ⟨by decide, by decide⟩ ?_
  | with_reducible refine i_pow ⟨by decide, by decide, by decide⟩ ?_
  | with_reducible refine i_lcT ?_
  | with_reducible refine i_lcL ?_
  | with_reducible refine i_lcR ?_
  | with_reducible refine i_M1 ?_
  | walk_at "w1"
  | (refine i_rAddS (by walk_at "len") ?_)
  | fail)
local macro_rules | `(tactic| walk_at "l") => `(tactic| (repeat' walk_at "l1"))

section
variable {P : Program} {w : World} {K : PySem.W.Frag} {mg : Str → Option Value} {base : Heap} {H0 Hb H H' : Hp}
theorem ix_listK {X : Cx} (h : X.K = K) : IxR X (rIxL K) := by
  subst h
  exact ix_list
theorem ix_tupK {X : Cx} (h : X.K = K) : IxR X (rIxT K) := by
  subst h
  exact ix_tup
theorem call_lenK {X : Cx} (h : X.K = K) : CallR X (.builtin "len") (rLen K) := by
  subst h
  exact call_len'
theorem strs_of {Pz : Str → Prop} : ∀ (ys : List V), (∀ (j : Nat) y, ys[j]? = some y → ∃ s, Pz s ∧ y = .str s) → ∃ ss : List Str, ys = ss.map V.str ∧ ∀ s ∈ ss, Pz s
  | [], _ => ⟨[], rfl, fun s hs => by cases hs⟩
  | y :: ys, h => by
    obtain ⟨s, hs, e⟩ := h 0 y rfl
    obtain ⟨ss, e2, hss⟩ := strs_of ys fun j z hz => h (j + 1) z hz
    refine ⟨s :: ss, by rw [e, e2]; rfl, fun t ht => ?_⟩
    cases ht with
    | head => exact hs
    | tail _ ht => exact hss t ht
/-! _law_names -/
def spNames : Sp := fun vs H Q _ => ∃ (c : Int) (m : Nat), vs = [.int c, .int m] ∧ m ≤ 100 ∧ ∀ (H' : Hp) (l : Addr) (ss : List Str), Same H H' → H' l = some (.lst (ss.map V.str)) → ss.length = m → (∀ s ∈ ss, Small s) → Q (.ref l) H'
theorem sc__law_names : FnScope (["_law_cell_here", "_law_many", "_law_draws_here", "_law_k"] : List Str) (["_law_cell_here", "_law_many"] : List Str) (defScope s__law_names) := ⟨rfl, rfl, rfl, by decide +kernel, rfl, by decide +kernel, by decide +kernel⟩
theorem k_law_names (T : Txt w K mg) : Cal P w K mg base 2 "_law_names" spNames := by
  have G__law_draws := k_law_draws (P := P) (base := base) T
  have G__law_name := k_law_name (P := P) (base := base) T
  obtain ⟨fd, F⟩ := T.d__law_names
  refine ⟨_, fd, ["_law_cell_here", "_law_many"], fn_ok F sc__law_names (fun vs H Q E h => ?_) (fun cdv A outer s H vs Q E hr h => ?_), T.g__law_names, F.kp, F.bindsN (fun _ _ _ _ _ _ us hl => match us, hl with | [_, _], _ => rfl)⟩
  · obtain ⟨_, _, rfl, _⟩ := h
    rfl
  obtain ⟨c, m, rfl, hm, q⟩ := h
  refine ⟨_, (pss_cons (ps_set (i := 2) sc__law_names.nd rfl (by first | exact Or.inl rfl | exact Or.inr rfl) (pe_c G__law_draws hr (by omega) rfl (pa_cons (pv 0) (pa_cons (pe_op op_mul pe_int (pv 1)) pa_nil))))
    (pss_one (ps_ret (pe_lc (own := [("_law_k", 3)]) (g := gName 3) (tt := tYes) rfl sc__law_names.nd (pi_range1 rfl T.z_range (pa_cons (pv 1) pa_nil)) (blkOk_by (own := [("_law_k", 3)]) (N := ["_law_cell_here", "_law_many", "_law_draws_here", "_law_k"]) (sc := defScope s__law_names) (by decide +kernel)) (fun _ _ _ _ _ => (pg_name (i := 3) sc__law_names.nd rfl (by first | exact Or.inl rfl | exact Or.inr rfl))) (fun _ _ _ _ _ => pts_nil) (fun _ _ _ _ _ => (pe_c G__law_name hr (by omega) rfl (pa_cons (pe_ix (ix_listK (K := K) rfl) (pv 2) (pe_op op_mul pe_int (pv 3)) (fun _ _ => rfl)) (pa_cons (pe_ix (ix_listK (K := K) rfl) (pv 2) (pe_op op_add (pe_op op_mul pe_int (pv 3)) pe_int) (fun _ _ => rfl)) pa_nil)))))))), ?_⟩
  walk_at "w0"
  walk_at "l"
  refine ⟨c, 2 * m, by rw [Int.natCast_mul]; rfl, by omega, fun H1 l ds s1 hl hz hd => ?_⟩
  walk_at "l"
  refine i_lcRng (K := K) (fun j H' y => ∃ s, Small s ∧ y = .str s) (by omega) (fun _ _ _ _ _ h => h) (by omega) (fun i Hi R hi si hR => ?_) (fun D H' ys s' hD hlen hY => ?_)
  · have k1 : 2 * i < ds.length := by omega
    have k2 : 2 * i + 1 < ds.length := by omega
    have hl' := SqL.of (K := K) (si _ _ hl)
    have e1 : (2 : Int) * i = ((2 * i : Nat) : Int) := by omega
    have e2 : (2 : Int) * i + 1 = ((2 * i + 1 : Nat) : Int) := by omega
    have d1 := hd _ (List.getElem_mem k1)
    have d2 := hd _ (List.getElem_mem k2)
    walk_at "l"
    refine ⟨rfl, ?_⟩
    walk_at "l"
    refine i_rIxL hl' (v := V.int ds[2 * i]) (by rw [e1]; exact atI_nat (by rw [List.getElem?_map, List.getElem?_eq_getElem k1]; rfl)) ?_
    walk_at "l"
    refine i_rIxL hl' (v := V.int ds[2 * i + 1]) (by rw [e2]; exact atI_nat (by rw [List.getElem?_map, List.getElem?_eq_getElem k2]; rfl)) ?_
    walk_at "l"
    exact ⟨_, _, rfl, d1.1, d1.2, d2.1, d2.2, fun s hs => hR _ _ (Same.refl Hi) ⟨s, hs, rfl⟩⟩
  · obtain ⟨ss, e, hss⟩ := strs_of ys (fun j y hy => hY j y hy)
    refine q H' D ss (s1.trans s') (by rw [hD, e]) ?_ hss
    have : ys.length = ss.length := by rw [e, List.length_map]
    omega
/-! _law_worths -/
def spWorths : Sp := fun vs H Q _ => ∃ (c : Int) (m : Nat), vs = [.int c, .int m] ∧ m ≤ 100 ∧ ∀ (H' : Hp) (l : Addr) (ss : List Str), Same H H' → H' l = some (.lst (ss.map V.str)) → ss.length = m → (∀ s ∈ ss, WorthOk s) → Q (.ref l) H'
theorem sc__law_worths : FnScope (["_law_cell_here", "_law_many", "_law_draws_here", "_law_k"] : List Str) (["_law_cell_here", "_law_many"] : List Str) (defScope s__law_worths) := ⟨rfl, rfl, rfl, by decide +kernel, rfl, by decide +kernel, by decide +kernel⟩
theorem k_law_worths (T : Txt w K mg) : Cal P w K mg base 2 "_law_worths" spWorths := by
  have G__law_draws := k_law_draws (P := P) (base := base) T
  have G__law_worth := k_law_worth (P := P) (base := base) T
  obtain ⟨fd, F⟩ := T.d__law_worths
  refine ⟨_, fd, ["_law_cell_here", "_law_many"], fn_ok F sc__law_worths (fun vs H Q E h => ?_) (fun cdv A outer s H vs Q E hr h => ?_), T.g__law_worths, F.kp, F.bindsN (fun _ _ _ _ _ _ us hl => match us, hl with | [_, _], _ => rfl)⟩
  · obtain ⟨_, _, rfl, _⟩ := h
    rfl
  obtain ⟨c, m, rfl, hm, q⟩ := h
  refine ⟨_, (pss_cons (ps_set (i := 2) sc__law_worths.nd rfl (by first | exact Or.inl rfl | exact Or.inr rfl) (pe_c G__law_draws hr (by omega) rfl (pa_cons (pv 0) (pa_cons (pe_op op_mul pe_int (pv 1)) pa_nil))))
    (pss_one (ps_ret (pe_lc (own := [("_law_k", 3)]) (g := gName 3) (tt := tYes) rfl sc__law_worths.nd (pi_range1 rfl T.z_range (pa_cons (pv 1) pa_nil)) (blkOk_by (own := [("_law_k", 3)]) (N := ["_law_cell_here", "_law_many", "_law_draws_here", "_law_k"]) (sc := defScope s__law_worths) (by decide +kernel)) (fun _ _ _ _ _ => (pg_name (i := 3) sc__law_worths.nd rfl (by first | exact Or.inl rfl | exact Or.inr rfl))) (fun _ _ _ _ _ => pts_nil) (fun _ _ _ _ _ => (pe_c G__law_worth hr (by omega) rfl (pa_cons (pe_ix (ix_listK (K := K) rfl) (pv 2) (pe_op op_mul pe_int (pv 3)) (fun _ _ => rfl)) (pa_cons (pe_ix (ix_listK (K := K) rfl) (pv 2) (pe_op op_add (pe_op op_mul pe_int (pv 3)) pe_int) (fun _ _ => rfl)) pa_nil)))))))), ?_⟩
  walk_at "w0"
  walk_at "l"
  refine ⟨c, 2 * m, by rw [Int.natCast_mul]; rfl, by omega, fun H1 l ds s1 hl hz hd => ?_⟩
  walk_at "l"
  refine i_lcRng (K := K) (fun j H' y => ∃ s, WorthOk s ∧ y = .str s) (by omega) (fun _ _ _ _ _ h => h) (by omega) (fun i Hi R hi si hR => ?_) (fun D H' ys s' hD hlen hY => ?_)
  · have k1 : 2 * i < ds.length := by omega
    have k2 : 2 * i + 1 < ds.length := by omega
    have hl' := SqL.of (K := K) (si _ _ hl)
    have e1 : (2 : Int) * i = ((2 * i : Nat) : Int) := by omega
    have e2 : (2 : Int) * i + 1 = ((2 * i + 1 : Nat) : Int) := by omega
    have d1 := hd _ (List.getElem_mem k1)
    have d2 := hd _ (List.getElem_mem k2)
    walk_at "l"
    refine ⟨rfl, ?_⟩
    walk_at "l"
    refine i_rIxL hl' (v := V.int ds[2 * i]) (by rw [e1]; exact atI_nat (by rw [List.getElem?_map, List.getElem?_eq_getElem k1]; rfl)) ?_
    walk_at "l"
    refine i_rIxL hl' (v := V.int ds[2 * i + 1]) (by rw [e2]; exact atI_nat (by rw [List.getElem?_map, List.getElem?_eq_getElem k2]; rfl)) ?_
    walk_at "l"
    exact ⟨_, _, rfl, d1.1, d1.2, d2.1, d2.2, fun s hs => hR _ _ (Same.refl Hi) ⟨s, hs, rfl⟩⟩
  · obtain ⟨ss, e, hss⟩ := strs_of ys (fun j y hy => hY j y hy)
    refine q H' D ss (s1.trans s') (by rw [hD, e]) ?_ hss
    have : ys.length = ss.length := by rw [e, List.length_map]
    omega
end
end Wf


set_option Elab.async false
set_option linter.all false
set_option maxRecDepth 100000
set_option maxHeartbeats 4000000
namespace Wf
open PySem PySem.Spec PyProof.Rows L2
open C8 (pe_gc)
local macro_rules | `(tactic| walk_at "w1") => `(tactic| first
  | with_reducible refine i_seq ?_
  | with_reducible refine i_asg ?_
  | with_reducible refine i_gname ?_
  | ((with_reducible refine' i_var ?ivar ?imain); (case ivar => exact rfl))
  | with_reducible refine i_c ?_
  | with_reducible refine i_op ?_
  | with_reducible refine i_if ?_
  | with_reducible refine i_test ?_
  | with_reducible refine i_tB ?_
  | with_reducible refine i_bl ?_
  | with_reducible refine i_ret ?_
  | with_reducible refine i_retN ?_
  | with_reducible refine i_drop ?_
  | with_reducible refine i_next ?_
  | with_reducible refine i_cons ?_
  | with_reducible refine i_nil ?_
  | with_reducible refine i_cb ?_
  | with_reducible refine i_tup ?_
  | with_reducible refine i_lst ?_
  | with_reducible refine i_fld ?_
  | with_reducible refine i_sfld ?_
  | with_reducible refine i_call ?_
  | with_reducible refine i_meth ?_
  | with_reducible refine i_and ?_
  | with_reducible refine i_or ?_
  | with_reducible refine i_not ?_
  | with_reducible refine i_andV ?_
  | with_reducible refine i_orV ?_
  | with_reducible refine i_notV ?_
  | with_reducible refine i_ifV ?_
  | with_reducible refine i_un ?_
  | with_reducible refine i_neg ?_
  | with_reducible refine i_gcons ?_
  | with_reducible refine i_sl ?_
  | with_reducible refine i_part ?_
  | with_reducible refine i_nopart ?_
  | with_reducible refine i_int ?_
  | with_reducible refine i_inS ?_
  | with_reducible refine i_notInS ?_
  | with_reducible refine i_tyS ?_
  | with_reducible refine i_forL ?_
  | with_reducible refine i_forT ?_
  | with_reducible refine i_forR1 ?_
  | with_reducible refine i_bm ?_
  | with_reducible refine i_bm0 ?_
  | with_reducible refine i_gnil ?_
  | with_reducible refine i_rI0 ?_
  | with_reducible refine i_rIsN ?_
  | with_reducible refine i_rNotN ?_
  | with_reducible refine i_rInt ?_
  | ((with_reducible refine i_rEq ?isc ?imain); (case isc => exact rfl))
  | ((with_reducible refine i_rNe ?isc ?imain); (case isc => exact rfl))
  | with_reducible refine i_T rfl ?_
  | with_reducible refine i_F rfl ?_
  | ((refine' i_T ?icnd ?imain); (case icnd => decide +kernel))
  | ((refine' i_F ?icnd ?imain); (case icnd => decide +kernel))
  | fail)
local macro_rules | `(tactic| walk_at "w") => `(tactic| (repeat' walk_at "w1"))
local macro_rules | `(tactic| walk_at "w0") => `(tactic| (simp only [cxOf, L2.start, List.map_cons, List.map_nil, List.length_cons, List.length_nil, Nat.reduceAdd, Nat.reduceSub, Nat.zero_add, List.replicate_zero, List.replicate_succ, List.cons_append, List.nil_append]))
local macro_rules | `(tactic| walk_at "tk") => `(tactic| (simp only [Tk.sign, Tk.val]))
local macro_rules | `(tactic| walk_at "c") => `(tactic| (dsimp only [List.set_cons_zero, List.set_cons_succ, List.cons_append, List.nil_append]))

local macro_rules | `(tactic| walk_at "len") => `(tactic| (refine le_line ?_; (try simp only [str_app, lit1, lit2, lit3, lit4, lit5, lit6, lit7, lit8, lit9, lit10, lit11, lit12, lit13, lit14, lit15, lit16, lit17, lit18]); omega))
local macro_rules | `(tactic| walk_at "s1") => `(tactic| first
  | walk_at "w1"
  | (refine i_rAddS (by walk_at "len") ?_)
  | fail)
local macro_rules | `(tactic| walk_at "s") => `(tactic| (repeat' walk_at "s1"))
local macro_rules | `(tactic| walk_at "l1") => `(tactic| first
  | with_reducible refine i_lst2 ?_
  | with_reducible refine i_tup2 ?_
  | with_reducible refine i_mod (by decide) ?_
  | with_reducible refine i_div ⟨by decide, by decide⟩ ?_
  | with_reducible refine i_mulR ⟨by decide, by decide⟩ ?_
  | with_reducible refine i_mulL ⟨by decide, by decide⟩ ?_
  | with_reducible refine i_pow ⟨by decide, by decide, by decide⟩ ?_
  | with_reducible refine i_lcT ?_
  | with_reducible refine i_lcL ?_
  | with_reducible refine i_lcR ?_
  | with_reducible refine i_M1 ?_
  | walk_at "w1"
  | (refine i_rAddS (by walk_at "len") ?_)
  | fail)
local macro_rules | `(tactic| walk_at "l") => `(tactic| (repeat' walk_at "l1"))

section
variable {P : Program} {w : World} {K : PySem.W.Frag} {mg : Str → Option Value} {base : Heap} {H0 Hb H H' : Hp}
/-! _law_kind -/
def spLKind (K : PySem.W.Frag) (n : Nat) : Sp := fun vs H Q _ => ∃ (e : Ex) (v : V), vs = [v] ∧ ER K H e v ∧ e.depth < n ∧ ∀ H', Same H H' → Q (kdV e.kd) H'
theorem in_join (o : Op) : inV (.str o.str) [.str ("and" : Str), .str ("or" : Str), .str ("unless" : Str)] = o.join := by cases o <;> decide +kernel
theorem in_arith (o : Op) : inV (.str o.str) [.str ("+" : Str), .str ("-" : Str), .str ("*" : Str)] = o.arith := by cases o <;> decide +kernel
theorem sc__law_kind : FnScope (["_law_expression_here", "_law_word", "_law_left", "_law_right"] : List Str) (["_law_expression_here"] : List Str) (defScope s__law_kind) := ⟨rfl, rfl, rfl, by decide +kernel, rfl, by decide +kernel, by decide +kernel⟩
theorem k_kind_of {n : Nat} (T : Txt w K mg) (G__law_kind : Cal P w K mg base (n + 1) "_law_kind" (spLKind K n)) : Cal P w K mg base (n + 2) "_law_kind" (spLKind K (n + 1)) := by
  obtain ⟨fd, F⟩ := T.d__law_kind
  refine ⟨_, fd, ["_law_expression_here"], fn_ok F sc__law_kind (fun vs H Q E h => ?_) (fun cdv A outer s H vs Q E hr h => ?_), T.g__law_kind, F.kp, F.bindsN (fun _ _ _ _ _ _ us hl => match us, hl with | [_], _ => rfl)⟩
  · obtain ⟨_, _, rfl, _⟩ := h
    rfl
  obtain ⟨e, v, rfl, he, hd, q⟩ := h
  refine ⟨_, (pss_cons (ps_set (i := 1) sc__law_kind.nd rfl (by first | exact Or.inl rfl | exact Or.inr rfl) (pe_ix ix_tup (pv 0) pe_int (fun _ _ => rfl)))
    (pss_cons (ps_if (pt_cmpR op_eq (pv 1) pe_str (nomark _)) (pss_one (ps_ret pe_str)) pss_nil)
    (pss_cons (ps_if (PW.pt (pw_or (pt_cmpR op_eq (pv 1) pe_str (nomark _)) (pw_or1 (pt_cmpR op_eq (pv 1) pe_str (nomark _))))) (pss_one (ps_ret pe_str)) pss_nil)
    (pss_cons (ps_if (pt_cmpR op_eq (pv 1) pe_str (nomark _)) (pss_cons (ps_if (pt_cmpR op_eq (pe_c G__law_kind hr (by omega) rfl (pa_cons (pe_ix ix_tup (pv 0) pe_int (fun _ _ => rfl)) pa_nil)) pe_str (nomark _)) (pss_one (ps_ret pe_str)) pss_nil)
    (pss_one (ps_ret pe_non))) pss_nil)
    (pss_cons (ps_set (i := 2) sc__law_kind.nd rfl (by first | exact Or.inl rfl | exact Or.inr rfl) (pe_c G__law_kind hr (by omega) rfl (pa_cons (pe_ix ix_tup (pv 0) pe_int (fun _ _ => rfl)) pa_nil)))
    (pss_cons (ps_set (i := 3) sc__law_kind.nd rfl (by first | exact Or.inl rfl | exact Or.inr rfl) (pe_c G__law_kind hr (by omega) rfl (pa_cons (pe_ix ix_tup (pv 0) pe_int (fun _ _ => rfl)) pa_nil)))
    (pss_cons (ps_if (PW.pt (pw_or (pt_cmpR op_isN' (pv 2) pe_non (nomark _)) (pw_or1 (pt_cmpR op_isN' (pv 3) pe_non (nomark _))))) (pss_one (ps_ret pe_non)) pss_nil)
    (pss_cons (ps_if (pt_cmpR op_in_seq (pe_ix ix_tup (pv 0) pe_int (fun _ _ => rfl)) (pe_tup (pa_cons pe_str (pa_cons pe_str (pa_cons pe_str pa_nil)))) rfl) (pss_cons (ps_if (PW.pt (pw_and (pt_cmpR op_eq (pv 2) pe_str (nomark _)) (pw_and1 (pt_cmpR op_eq (pv 3) pe_str (nomark _))))) (pss_one (ps_ret pe_str)) pss_nil)
    (pss_one (ps_ret pe_non))) pss_nil)
    (pss_cons (ps_if (PW.pt (pw_and (pt_cmpR op_eq (pv 2) pe_str (nomark _)) (pw_and1 (pt_cmpR op_eq (pv 3) pe_str (nomark _))))) (pss_cons (ps_if (pt_cmpR op_in_seq (pe_ix ix_tup (pv 0) pe_int (fun _ _ => rfl)) (pe_tup (pa_cons pe_str (pa_cons pe_str (pa_cons pe_str pa_nil)))) rfl) (pss_one (ps_ret pe_str)) pss_nil)
    (pss_one (ps_ret pe_non))) pss_nil)
    (pss_one (ps_ret pe_str))))))))))), ?_⟩
  walk_at "w0"
  walk_at "l"
  cases e with
  | num k =>
    obtain ⟨a, rfl, h1⟩ := he
    refine i_rIxT h1 atI_0 ?_
    walk_at "l"
    exact q H (Same.refl H)
  | latest m ms =>
    obtain ⟨a, b, xs, rfl, h1, h2, h3⟩ := he
    refine i_rIxT h1 atI_0 ?_
    walk_at "l"
    exact q H (Same.refl H)
  | over o m ms k =>
    obtain ⟨a, b, xs, rfl, h1, h2, h3⟩ := he
    refine i_rIxT h1 atI_0 ?_
    walk_at "l"
    exact q H (Same.refl H)
  | agg o ns i =>
    obtain ⟨a, b, x, rfl, h1, h2, h3⟩ := he
    have hd2 : i.depth + 1 < n + 1 := hd
    refine i_rIxT h1 atI_0 ?_
    walk_at "l"
    refine i_rIxT h1 atI_3 ?_
    walk_at "l"
    refine ⟨i, x, rfl, h3, by omega, fun H1 s1 => ?_⟩
    have hk : (Ex.agg o ns i).kd = if i.kd = some true then some true else none := rfl
    rw [hk] at q
    generalize i.kd = ki at q ⊢
    rcases ki with _ | _ | _
    · walk_at "l"
      exact q H1 s1
    · walk_at "l"
      exact q H1 s1
    · walk_at "l"
      exact q H1 s1
  | bin o x1 x2 =>
    obtain ⟨a, x, y, rfl, h1, h2, h3⟩ := he
    have hd2 : max x1.depth x2.depth + 1 < n + 1 := hd
    refine i_rIxT h1 atI_0 ?_
    walk_at "l"
    refine i_rIxT h1 atI_2 ?_
    walk_at "l"
    refine ⟨x1, x, rfl, h2, by omega, fun H1 s1 => ?_⟩
    walk_at "l"
    refine i_rIxT (Same.sqT s1 h1) atI_3 ?_
    walk_at "l"
    refine ⟨x2, y, rfl, h3.mono (Same.tup s1), by omega, fun H2 s2 => ?_⟩
    have S := s1.trans s2
    have hk : (Ex.bin o x1 x2).kd = kdBin o x1.kd x2.kd := rfl
    rw [hk] at q
    generalize x1.kd = k1 at q ⊢
    generalize x2.kd = k2 at q ⊢
    cases k1 with
    | none =>
      walk_at "l"
      cases k2 <;> exact q H2 S
    | some a1 =>
      cases k2 with
      | none =>
        cases a1
        · walk_at "l"
          exact q H2 S
        · walk_at "l"
          exact q H2 S
      | some b1 =>
        have hq : kdBin o (some a1) (some b1) = if o.join then (if a1 && b1 then some true else none) else if a1 || b1 then some true else if o.arith then some false else none := rfl
        rw [hq] at q
        cases a1 <;> cases b1
        · walk_at "l"
          refine i_rIxT (Same.sqT S h1) atI_1 ?_
          walk_at "l"
          refine i_TupQ (K := K) (by simp) fun t3 H3 n3 s3 e3 => ?_
          walk_at "l"
          refine i_rIn (.inr e3) rfl rfl ?_
          rw [if_neg Bool.false_ne_true, in_join]
          refine ⟨_, rfl, ?_⟩
          cases hj : o.join with
          | true =>
            rw [hj] at q
            walk_at "l"
            exact q H3 (S.trans s3)
          | false =>
            rw [hj] at q
            walk_at "l"
            refine i_rIxT (Same.sqT (S.trans s3) h1) atI_1 ?_
            walk_at "l"
            refine i_TupQ (K := K) (by simp) fun t4 H4 n4 s4 e4 => ?_
            walk_at "l"
            refine i_rIn (.inr e4) rfl rfl ?_
            rw [if_neg Bool.false_ne_true, in_arith]
            refine ⟨_, rfl, ?_⟩
            cases ha : o.arith with
            | true =>
              rw [ha] at q
              walk_at "l"
              exact q H4 (S.trans (s3.trans s4))
            | false =>
              rw [ha] at q
              walk_at "l"
              exact q H4 (S.trans (s3.trans s4))
        · walk_at "l"
          refine i_rIxT (Same.sqT S h1) atI_1 ?_
          walk_at "l"
          refine i_TupQ (K := K) (by simp) fun t3 H3 n3 s3 e3 => ?_
          walk_at "l"
          refine i_rIn (.inr e3) rfl rfl ?_
          rw [if_neg Bool.false_ne_true, in_join]
          refine ⟨_, rfl, ?_⟩
          cases hj : o.join with
          | true =>
            rw [hj] at q
            walk_at "l"
            exact q H3 (S.trans s3)
          | false =>
            rw [hj] at q
            walk_at "l"
            exact q H3 (S.trans s3)
        · walk_at "l"
          refine i_rIxT (Same.sqT S h1) atI_1 ?_
          walk_at "l"
          refine i_TupQ (K := K) (by simp) fun t3 H3 n3 s3 e3 => ?_
          walk_at "l"
          refine i_rIn (.inr e3) rfl rfl ?_
          rw [if_neg Bool.false_ne_true, in_join]
          refine ⟨_, rfl, ?_⟩
          cases hj : o.join with
          | true =>
            rw [hj] at q
            walk_at "l"
            exact q H3 (S.trans s3)
          | false =>
            rw [hj] at q
            walk_at "l"
            exact q H3 (S.trans s3)
        · walk_at "l"
          refine i_rIxT (Same.sqT S h1) atI_1 ?_
          walk_at "l"
          refine i_TupQ (K := K) (by simp) fun t3 H3 n3 s3 e3 => ?_
          walk_at "l"
          refine i_rIn (.inr e3) rfl rfl ?_
          rw [if_neg Bool.false_ne_true, in_join]
          refine ⟨_, rfl, ?_⟩
          cases hj : o.join with
          | true =>
            rw [hj] at q
            walk_at "l"
            exact q H3 (S.trans s3)
          | false =>
            rw [hj] at q
            walk_at "l"
            exact q H3 (S.trans s3)
theorem k_kind_zero (T : Txt w K mg) : Cal P w K mg base 1 "_law_kind" (spLKind K 0) := by
  obtain ⟨fd, F⟩ := T.d__law_kind
  refine ⟨_, fd, ["_law_expression_here"], fn_ok F sc__law_kind (fun vs H Q E h => ?_) (fun cdv A outer s H vs Q E hr h => ?_), T.g__law_kind, F.kp, F.bindsN (fun _ _ _ _ _ _ us hl => match us, hl with | [_], _ => rfl)⟩
  · obtain ⟨_, _, rfl, _⟩ := h
    rfl
  obtain ⟨_, _, _, _, h, _⟩ := h
  exact absurd h (Nat.not_lt_zero _)
theorem k_law_kind (T : Txt w K mg) : ∀ n, Cal P w K mg base (n + 1) "_law_kind" (spLKind K n)
  | 0 => k_kind_zero T
  | n + 1 => k_kind_of T (k_law_kind T n)
/-! _law_sign -/
def opsL : List Op := [.add, .sub, .mul, .lt, .le, .gt, .ge, .eq, .ne, .and, .or, .unless]
theorem op_at {i : Int} (h0 : 0 ≤ i) (h : i < 12) : ∃ o : Op, atI [V.str ("+" : Str), .str ("-" : Str), .str ("*" : Str), .str ("<" : Str), .str ("<=" : Str), .str (">" : Str), .str (">=" : Str), .str ("==" : Str), .str ("!=" : Str), .str ("and" : Str), .str ("or" : Str), .str ("unless" : Str)] i = some (.str o.str) ∧ (i < 3 → o.arith = true) ∧ (i < 9 → o.join = false) ∧ (o.arith = true → o.join = false) := by
  obtain ⟨n, rfl⟩ := Int.eq_ofNat_of_zero_le h0
  have key : ∀ n : Nat, n < 12 → ∃ o : Op, opsL[n]? = some o ∧ (n < 3 → o.arith = true) ∧ (n < 9 → o.join = false) ∧ (o.arith = true → o.join = false) := by
    intro n hn
    have hl : n < opsL.length := hn
    refine ⟨opsL[n], by rw [List.getElem?_eq_getElem hl], ?_⟩
    have k : ∀ n : Fin 12, (n.val < 3 → (opsL.getD n.val .add).arith = true) ∧ (n.val < 9 → (opsL.getD n.val .add).join = false) ∧ ((opsL.getD n.val .add).arith = true → (opsL.getD n.val .add).join = false) := by decide
    have := k ⟨n, hn⟩
    rw [show opsL[n] = opsL.getD n .add from by rw [List.getD_eq_getElem?_getD, List.getElem?_eq_getElem hl]; rfl]
    exact this
  obtain ⟨o, e, h1⟩ := key n (by omega)
  refine ⟨o, atI_nat ?_, fun k => h1.1 (by omega), fun k => h1.2.1 (by omega), h1.2.2⟩
  have e2 : [V.str ("+" : Str), .str ("-" : Str), .str ("*" : Str), .str ("<" : Str), .str ("<=" : Str), .str (">" : Str), .str (">=" : Str), .str ("==" : Str), .str ("!=" : Str), .str ("and" : Str), .str ("or" : Str), .str ("unless" : Str)] = opsL.map fun o => V.str o.str := rfl
  rw [e2, List.getElem?_map, e]
  rfl
def spSign (K : PySem.W.Frag) (n : Nat) : Sp := fun vs H Q _ => ∃ (d : Int) (l r : Ex) (vl vr : V), vs = [.int d, vl, vr, .bl true] ∧ ER K H l vl ∧ ER K H r vr ∧ l.depth < n ∧ r.depth < n ∧ l.kd ≠ none ∧ r.kd ≠ none ∧ ∀ (H' : Hp) (o : Op), Same H H' → kdBin o l.kd r.kd ≠ none → Q (.str o.str) H'
theorem sc__law_sign : FnScope (["_law_draw", "_law_left", "_law_right", "_law_sound", "_law_signs"] : List Str) (["_law_draw", "_law_left", "_law_right", "_law_sound"] : List Str) (defScope s__law_sign) := ⟨rfl, rfl, rfl, by decide +kernel, rfl, by decide +kernel, by decide +kernel⟩
theorem k_law_sign {n : Nat} (T : Txt w K mg) : Cal P w K mg base (n + 2) "_law_sign" (spSign K n) := by
  have G__law_kind := k_law_kind (P := P) (base := base) T n
  obtain ⟨fd, F⟩ := T.d__law_sign
  refine ⟨_, fd, ["_law_draw", "_law_left", "_law_right", "_law_sound"], fn_ok F sc__law_sign (fun vs H Q E h => ?_) (fun cdv A outer s H vs Q E hr h => ?_), T.g__law_sign, F.kp, F.bindsN (fun _ _ _ _ _ _ us hl => match us, hl with | [_, _, _, _], _ => rfl)⟩
  · obtain ⟨_, _, _, _, _, rfl, _⟩ := h
    rfl
  obtain ⟨d, l, r, vl, vr, rfl, hl, hr2, hdl, hdr, hkl, hkr, q⟩ := h
  refine ⟨_, (pss_cons (ps_set (i := 4) sc__law_sign.nd rfl (by first | exact Or.inl rfl | exact Or.inr rfl) (pe_lst (pa_cons pe_str (pa_cons pe_str (pa_cons pe_str (pa_cons pe_str (pa_cons pe_str (pa_cons pe_str (pa_cons pe_str (pa_cons pe_str (pa_cons pe_str (pa_cons pe_str (pa_cons pe_str (pa_cons pe_str pa_nil))))))))))))))
    (pss_cons (ps_if (pt_not (pt_val (pv 3))) (pss_one (ps_ret (pe_ix ix_list (pv 4) (pe_op op_mod (pe_callTy call_int' rfl T.z_int (by decide +kernel) (pa_cons (pv 0) pa_nil)) pe_int) (fun _ _ => rfl)))) pss_nil)
    (pss_cons (ps_if (PW.pt (pw_and (pt_cmpR op_eq (pe_c G__law_kind hr (by omega) rfl (pa_cons (pv 1) pa_nil)) pe_str (nomark _)) (pw_and1 (pt_cmpR op_eq (pe_c G__law_kind hr (by omega) rfl (pa_cons (pv 2) pa_nil)) pe_str (nomark _))))) (pss_one (ps_ret (pe_ix ix_list (pv 4) (pe_op op_mod (pe_callTy call_int' rfl T.z_int (by decide +kernel) (pa_cons (pv 0) pa_nil)) pe_int) (fun _ _ => rfl)))) pss_nil)
    (pss_cons (ps_if (PW.pt (pw_or (pt_cmpR op_eq (pe_c G__law_kind hr (by omega) rfl (pa_cons (pv 1) pa_nil)) pe_str (nomark _)) (pw_or1 (pt_cmpR op_eq (pe_c G__law_kind hr (by omega) rfl (pa_cons (pv 2) pa_nil)) pe_str (nomark _))))) (pss_one (ps_ret (pe_ix ix_list (pv 4) (pe_op op_mod (pe_callTy call_int' rfl T.z_int (by decide +kernel) (pa_cons (pv 0) pa_nil)) pe_int) (fun _ _ => rfl)))) pss_nil)
    (pss_one (ps_ret (pe_ix ix_list (pv 4) (pe_op op_mod (pe_callTy call_int' rfl T.z_int (by decide +kernel) (pa_cons (pv 0) pa_nil)) pe_int) (fun _ _ => rfl)))))))), ?_⟩
  walk_at "w0"
  walk_at "l"
  refine i_LstQ (by simp) fun l0 H0 n0 s0 e0 => ?_
  walk_at "l"
  obtain ⟨a, ha⟩ : ∃ a, l.kd = some a := by
    cases h : l.kd with
    | none => exact absurd h hkl
    | some a => exact ⟨a, rfl⟩
  obtain ⟨b, hb⟩ : ∃ b, r.kd = some b := by
    cases h : r.kd with
    | none => exact absurd h hkr
    | some a => exact ⟨a, rfl⟩
  rw [ha, hb] at q
  obtain ⟨o3, a3, b3, _, f3⟩ := op_at (i := d % 3) (by omega) (by omega)
  obtain ⟨o9, a9, _, c9, _⟩ := op_at (i := d % 9) (by omega) (by omega)
  obtain ⟨o12, a12, _, _, _⟩ := op_at (i := d % 12) (by omega) (by omega)
  have K3 : kdBin o3 (some false) (some false) ≠ none := by
    have h1 := b3 (by omega)
    have h2 := f3 h1
    show (if o3.join then _ else _) ≠ none
    rw [if_neg (by rw [h2]; decide), if_neg (by decide), if_pos h1]
    simp
  have K9 : ∀ a b, (a || b) = true → kdBin o9 (some a) (some b) ≠ none := fun a b hab => by
    have h2 := c9 (by omega)
    show (if o9.join then _ else _) ≠ none
    rw [if_neg (by rw [h2]; decide), if_pos hab]
    simp
  have K12 : kdBin o12 (some true) (some true) ≠ none := by
    cases o12 <;> decide
  have callL : ∀ (H1 : Hp) (R : VK) (E : XK), Same H H1 → (∀ H', Same H1 H' → R (kdV (some a)) H') → spLKind K n [vl] H1 R E := fun H1 R E s1 h => ⟨l, vl, rfl, hl.mono (Same.tup s1), hdl, by rw [ha]; exact h⟩
  have callR : ∀ (H1 : Hp) (R : VK) (E : XK), Same H H1 → (∀ H', Same H1 H' → R (kdV (some b)) H') → spLKind K n [vr] H1 R E := fun H1 R E s1 h => ⟨r, vr, rfl, hr2.mono (Same.tup s1), hdr, by rw [hb]; exact h⟩
  refine callL _ _ _ s0 fun H1 s1 => ?_
  have e1 := s1 _ _ e0
  have S1 := s0.trans s1
  cases a with
  | false =>
    walk_at "l"
    refine callR _ _ _ S1 fun H2 s2 => ?_
    have e2 := s2 _ _ e1
    have S2 := S1.trans s2
    cases b with
    | false =>
      walk_at "l"
      refine i_rIxL (SqL.of e2) a3 ?_
      exact q H2 o3 S2 K3
    | true =>
      walk_at "l"
      refine callL _ _ _ S2 fun H3 s3 => ?_
      walk_at "l"
      refine i_rIxL (SqL.of (s3 _ _ e2)) a9 ?_
      exact q H3 o9 (S2.trans s3) (K9 _ _ rfl)
  | true =>
    walk_at "l"
    refine callL _ _ _ S1 fun H2 s2 => ?_
    have e2 := s2 _ _ e1
    have S2 := S1.trans s2
    walk_at "l"
    refine callR _ _ _ S2 fun H3 s3 => ?_
    cases b with
    | false =>
      walk_at "l"
      refine i_rIxL (SqL.of (s3 _ _ e2)) a9 ?_
      exact q H3 o9 (S2.trans s3) (K9 _ _ rfl)
    | true =>
      walk_at "l"
      refine i_rIxL (SqL.of (s3 _ _ e2)) a12 ?_
      exact q H3 o12 (S2.trans s3) K12
end
end Wf


set_option Elab.async false
set_option linter.all false
set_option maxRecDepth 100000
set_option maxHeartbeats 4000000
namespace Wf
open PySem PySem.Spec PyProof.Rows L2
open C8 (pe_gc)
local macro_rules | `(tactic| walk_at "w1") => `(tactic| first
  | with_reducible refine i_seq ?_
  | with_reducible refine i_asg ?_
  | with_reducible refine i_gname ?_
  | ((with_reducible refine' i_var ?ivar ?imain); (case ivar => exact rfl))
  | with_reducible refine i_c ?_
  | with_reducible refine i_op ?_
  | with_reducible refine i_if ?_
  | with_reducible refine i_test ?_
  | with_reducible refine i_tB ?_
  | with_reducible refine i_bl ?_
  | with_reducible refine i_ret ?_
  | with_reducible refine i_retN ?_
  | with_reducible refine i_drop ?_
  | with_reducible refine i_next ?_
  | with_reducible refine i_cons ?_
  | with_reducible refine i_nil ?_
  | with_reducible refine i_cb ?_
  | with_reducible refine i_tup ?_
  | with_reducible refine i_lst ?_
  | with_reducible refine i_fld ?_
  | with_reducible refine i_sfld ?_
  | with_reducible refine i_call ?_
  | with_reducible refine i_meth ?_
  | with_reducible refine i_and ?_
  | with_reducible refine i_or ?_
  | with_reducible refine i_not ?_
  | with_reducible refine i_andV ?_
  | with_reducible refine i_orV ?_
  | with_reducible refine i_notV ?_
  | with_reducible refine i_ifV ?_
  | with_reducible refine i_un ?_
  | with_reducible refine i_neg ?_
  | with_reducible refine i_gcons ?_
  | with_reducible refine i_sl ?_
  | with_reducible refine i_part ?_
  | with_reducible refine i_nopart ?_
  | with_reducible refine i_int ?_
  | with_reducible refine i_inS ?_
  | with_reducible refine i_notInS ?_
  | with_reducible refine i_tyS ?_
  | with_reducible refine i_forL ?_
  | with_reducible refine i_forT ?_
  | with_reducible refine i_forR1 ?_
  | with_reducible refine i_bm ?_
  | with_reducible refine i_bm0 ?_
  | with_reducible refine i_gnil ?_
  | with_reducible refine i_rI0 ?_
  | with_reducible refine i_rIsN ?_
  | with_reducible refine i_rNotN ?_
  | with_reducible refine i_rInt ?_
  | ((with_reducible refine i_rEq ?isc ?imain); (case isc => exact rfl))
  | ((with_reducible refine i_rNe ?isc ?imain); (case isc => exact rfl))
  | with_reducible refine i_T rfl ?_
  | with_reducible refine i_F rfl ?_
  | ((refine' i_T ?icnd ?imain); (case icnd => decide +kernel))
  | ((refine' i_F ?icnd ?imain); (case icnd => decide +kernel))
  | fail)
local macro_rules | `(tactic| walk_at "w") => `(tactic| (repeat' walk_at "w1"))
local macro_rules | `(tactic| walk_at "w0") => `(tactic| (simp only [cxOf, L2.start, List.map_cons, List.map_nil, List.length_cons, List.length_nil, Nat.reduceAdd, Nat.reduceSub, Nat.zero_add, List.replicate_zero, List.replicate_succ, List.cons_append, List.nil_append]))
local macro_rules | `(tactic| walk_at "tk") => `(tactic| (simp only [Tk.sign, Tk.val]))
local macro_rules | `(tactic| walk_at "c") => `(tactic| (dsimp only [List.set_cons_zero, List.set_cons_succ, List.cons_append, List.nil_append]))

local macro_rules | `(tactic| walk_at "len") => `(tactic| (refine le_line ?_; (try simp only [str_app, lit1, lit2, lit3, lit4, lit5, lit6, lit7, lit8, lit9, lit10, lit11, lit12, lit13, lit14, lit15, lit16, lit17, lit18]); omega))
local macro_rules | `(tactic| walk_at "s1") => `(tactic| first
  | walk_at "w1"
  | (refine i_rAddS (by walk_at "len") ?_)
  | fail)
local macro_rules | `(tactic| walk_at "s") => `(tactic| (repeat' walk_at "s1"))
local macro_rules | `(tactic| walk_at "l1") => `(tactic| first
  | with_reducible refine i_lst2 ?_
  | with_reducible refine i_tup2 ?_
  | with_reducible refine i_mod (by decide) ?_
  | with_reducible refine i_div ⟨by decide, by decide⟩ ?_
  | with_reducible refine i_mulR ⟨by decide, by decide⟩ ?_
  | with_reducible refine i_mulL ⟨by decide, by decide⟩ ?_
  | with_reducible refine i_pow ⟨by decide, by decide, by decide⟩ ?_
  | with_reducible refine i_lcT ?_
  | with_reducible refine i_lcL ?_
  | with_reducible refine i_lcR ?_
  | with_reducible refine i_M1 ?_
  | walk_at "w1"
  | (refine i_rAddS (by walk_at "len") ?_)
  | fail)
local macro_rules | `(tactic| walk_at "l") => `(tactic| (repeat' walk_at "l1"))

section
variable {P : Program} {w : World} {K : PySem.W.Frag} {mg : Str → Option Value} {base : Heap} {H0 Hb H H' : Hp}
/-! _law_leaf -/
def Leaf (e : Ex) : Prop := (∃ n, e = .num n) ∨ (∃ m ms, e = .latest m ms) ∨ ∃ o m ms s, e = .over o m ms s
structure Stock (H : Hp) (p : Addr) (ss : List Str) (Pz : Str → Prop) : Prop where
  at_ : H p = some (.lst (ss.map V.str))
  ok : ∀ s ∈ ss, Pz s
  ne : ss ≠ []
  few : ss.length ≤ 1000
theorem Stock.same {p : Addr} {ss : List Str} {Pz : Str → Prop} (s : Same H H') (h : Stock H p ss Pz) : Stock H' p ss Pz := ⟨s _ _ h.at_, h.ok, h.ne, h.few⟩
theorem pick {ss : List Str} {Pz : Str → Prop} (ne : ss ≠ []) (ok : ∀ s ∈ ss, Pz s) {i n : Int} (e : n = (ss.length : Nat)) : ∃ s, atI (ss.map V.str) (i % n) = some (.str s) ∧ Pz s := by
  have hl : 0 < ss.length := List.length_pos_iff.mpr ne
  have h0 := Int.emod_nonneg i (show n ≠ 0 by omega)
  have h1 := Int.emod_lt_of_pos i (show 0 < n by omega)
  obtain ⟨k, hk⟩ := Int.eq_ofNat_of_zero_le h0
  have hk2 : k < ss.length := by omega
  rw [hk]
  exact ⟨ss[k], atI_nat (by rw [List.getElem?_map, List.getElem?_eq_getElem hk2]; rfl), ok _ (List.getElem_mem hk2)⟩
theorem Stock.pick {p : Addr} {ss : List Str} {Pz : Str → Prop} (h : Stock H p ss Pz) (i : Int) : ∃ s, atI (ss.map V.str) (i % ((ss.map V.str).length : Nat)) = some (.str s) ∧ Pz s := Wf.pick h.ne h.ok (by rw [List.length_map])
theorem worth_nil : WorthOk ("" : Str) := ⟨(fun y hy => by cases hy), by decide⟩
theorem Stock.pick1 {p : Addr} {ss : List Str} (h : Stock H p ss WorthOk) (i : Int) : ∃ s, atI (ss.map V.str ++ [V.str ("" : Str)]) (i % (((ss.map V.str).length : Nat) + 1)) = some (.str s) ∧ WorthOk s := by
  have := Wf.pick (ss := ss ++ [("" : Str)]) (Pz := WorthOk) (i := i) (n := ((ss.map V.str).length : Nat) + 1) (by simp) (fun s hs => by
    rcases List.mem_append.mp hs with k | k
    · exact h.ok s k
    · rw [List.mem_singleton.mp k]; exact worth_nil) (by rw [List.length_append, List.length_map]; rfl)
  rw [List.map_append] at this
  exact this
theorem cut1 (a b : V) : cutV [a, b] none (some 1) = [a] := rfl
theorem cut2 (a b : V) : cutV [a, b] none (some 2) = [a, b] := rfl
theorem pos_of {p : Addr} {ss : List Str} {Pz : Str → Prop} (h : Stock H p ss Pz) : (0 : Int) < ((ss.map V.str).length : Nat) := by
  have hl : 0 < ss.length := List.length_pos_iff.mpr h.ne
  rw [List.length_map]
  omega
def Draws5 (H : Hp) (p : Addr) (a b c d e : Int) : Prop := H p = some (.lst [.int a, .int b, .int c, .int d, .int e]) ∧ DrawOk [a, b, c, d, e]
def spLeaf (K : PySem.W.Frag) : Sp := fun vs H Q _ => ∃ (p n z : Addr) (a b c d e : Int) (ns zs : List Str), vs = [.ref p, .ref n, .ref z] ∧ Draws5 H p a b c d e ∧ Stock H n ns LabelOk ∧ Stock H z zs WorthOk ∧
  ∀ H' v x, Same H H' → ER K H' x v → x.Ok → Leaf x → Q v H'
theorem ow_at {i : Int} (h0 : 0 ≤ i) (h : i < 6) : ∃ o : Ow, atI [V.str ("sum_over" : Str), .str ("min_over" : Str), .str ("max_over" : Str), .str ("count_over" : Str), .str ("last_over" : Str), .str ("increase" : Str)] i = some (.str o.str) := by
  obtain ⟨n, rfl⟩ := Int.eq_ofNat_of_zero_le h0
  match n, h with
  | 0, _ => exact ⟨.sum, atI_nat rfl⟩
  | 1, _ => exact ⟨.min, atI_nat rfl⟩
  | 2, _ => exact ⟨.max, atI_nat rfl⟩
  | 3, _ => exact ⟨.count, atI_nat rfl⟩
  | 4, _ => exact ⟨.last, atI_nat rfl⟩
  | 5, _ => exact ⟨.incr, atI_nat rfl⟩
  | n + 6, h => omega
theorem sc__law_leaf : FnScope (["_law_draws_here", "_law_names_here", "_law_worths_here", "_law_matchers", "_law_k", "_law_values", "_law_metric", "_law_words"] : List Str) (["_law_draws_here", "_law_names_here", "_law_worths_here"] : List Str) (defScope s__law_leaf) := ⟨rfl, rfl, rfl, by decide +kernel, rfl, by decide +kernel, by decide +kernel⟩
theorem k_law_leaf (T : Txt w K mg) : Cal P w K mg base 2 "_law_leaf" (spLeaf K) := by
  have G__law_number := k_law_number (P := P) (base := base) T
  obtain ⟨fd, F⟩ := T.d__law_leaf
  refine ⟨_, fd, ["_law_draws_here", "_law_names_here", "_law_worths_here"], fn_ok F sc__law_leaf (fun vs H Q E h => ?_) (fun cdv A outer s H vs Q E hr h => ?_), T.g__law_leaf, F.kp, F.bindsN (fun _ _ _ _ _ _ us hl => match us, hl with | [_, _, _], _ => rfl)⟩
  · obtain ⟨_, _, _, _, _, _, _, _, _, _, rfl, _⟩ := h
    rfl
  obtain ⟨p, n, z, d0, d1, d2, d3, d4, ns, zs, rfl, ⟨hp, hd⟩, hn, hz, q⟩ := h
  have b0 := hd d0 (by simp)
  have b1 := hd d1 (by simp)
  have b2 := hd d2 (by simp)
  have b3 := hd d3 (by simp)
  refine ⟨_, (pss_cons (ps_if (pt_cmpR op_eq (pe_op op_mod (pe_ix ix_list (pv 0) pe_int (fun _ _ => rfl)) pe_int) pe_int (nomark _)) (pss_one (ps_ret (pe_tup (pa_cons pe_str (pa_cons (pe_c G__law_number hr (by omega) rfl (pa_cons (pe_ix ix_list (pv 0) pe_int (fun _ _ => rfl)) (pa_cons (pe_ix ix_list (pv 0) pe_int (fun _ _ => rfl)) pa_nil))) pa_nil))))) pss_nil)
    (pss_cons (ps_set (i := 3) sc__law_leaf.nd rfl (by first | exact Or.inl rfl | exact Or.inr rfl) (pe_lst pa_nil))
    (pss_cons (ps_for PassesOwn.never rfl (pi_range1 rfl T.z_range (pa_cons (pe_op op_mod (pe_ix ix_list (pv 0) pe_int (fun _ _ => rfl)) pe_int) pa_nil)) (pg_name (i := 4) sc__law_leaf.nd rfl (by first | exact Or.inl rfl | exact Or.inr rfl)) (pss_cons (ps_set (i := 5) sc__law_leaf.nd rfl (by first | exact Or.inl rfl | exact Or.inr rfl) (pe_lst (pa_cons (pe_ix ix_list (pe_op op_cat (pv 2) (pe_lst (pa_cons pe_str pa_nil))) (pe_op op_mod (pe_callTy call_int' rfl T.z_int (by decide +kernel) (pa_cons (pe_op op_add (pe_op op_fdiv (pe_ix ix_list (pv 0) pe_int (fun _ _ => rfl)) pe_int) (pe_op op_mul (pv 4) pe_int)) pa_nil)) (pe_op op_add (pe_callB call_len' rfl T.z_len PySem.boot_len (pa_cons (pv 2) pa_nil)) pe_int)) (fun _ _ => rfl)) (pa_cons (pe_ix ix_list (pv 2) (pe_op op_mod (pe_op op_fdiv (pe_ix ix_list (pv 0) pe_int (fun _ _ => rfl)) pe_int) (pe_callB call_len' rfl T.z_len PySem.boot_len (pa_cons (pv 2) pa_nil))) (fun _ _ => rfl)) pa_nil))))
    (pss_one (ps_expr (pe_bm PySem.F.plainAttrs_list PySem.F.slot_list_append PySem.F.type_list_append mt_append (pv 3) (pa_cons (pe_tup (pa_cons (pe_ix ix_list (pv 1) (pe_op op_mod (pe_op op_add (pe_ix ix_list (pv 0) pe_int (fun _ _ => rfl)) (pv 4)) (pe_callB call_len' rfl T.z_len PySem.boot_len (pa_cons (pv 1) pa_nil))) (fun _ _ => rfl)) (pa_cons (pe_callTy call_tuple' rfl T.z_tuple (by decide +kernel) (pa_cons (pe_slice sl_list (pv 5) po_none (po_some (pe_op op_add pe_int (pe_op op_mod (pe_op op_add (pe_op op_fdiv (pe_ix ix_list (pv 0) pe_int (fun _ _ => rfl)) pe_int) (pv 4)) pe_int)))) pa_nil)) (pa_cons (pe_cmpR op_eq (pe_op op_mod (pe_ix ix_list (pv 0) pe_int (fun _ _ => rfl)) pe_int) pe_int (nomark _)) pa_nil)))) pa_nil))))))
    (pss_cons (ps_set (i := 6) sc__law_leaf.nd rfl (by first | exact Or.inl rfl | exact Or.inr rfl) (pe_ix ix_list (pv 1) (pe_op op_mod (pe_op op_fdiv (pe_ix ix_list (pv 0) pe_int (fun _ _ => rfl)) pe_int) (pe_callB call_len' rfl T.z_len PySem.boot_len (pa_cons (pv 1) pa_nil))) (fun _ _ => rfl)))
    (pss_cons (ps_if (pt_cmpR op_eq (pe_op op_mod (pe_ix ix_list (pv 0) pe_int (fun _ _ => rfl)) pe_int) pe_int (nomark _)) (pss_cons (ps_set (i := 7) sc__law_leaf.nd rfl (by first | exact Or.inl rfl | exact Or.inr rfl) (pe_lst (pa_cons pe_str (pa_cons pe_str (pa_cons pe_str (pa_cons pe_str (pa_cons pe_str (pa_cons pe_str pa_nil))))))))
    (pss_one (ps_ret (pe_tup (pa_cons pe_str (pa_cons (pe_ix ix_list (pv 7) (pe_op op_mod (pe_ix ix_list (pv 0) pe_int (fun _ _ => rfl)) pe_int) (fun _ _ => rfl)) (pa_cons (pv 6) (pa_cons (pe_callTy call_tuple' rfl T.z_tuple (by decide +kernel) (pa_cons (pv 3) pa_nil)) (pa_cons (pe_op op_add pe_int (pe_op op_mod (pe_op op_fdiv (pe_ix ix_list (pv 0) pe_int (fun _ _ => rfl)) pe_int) pe_int)) pa_nil))))))))) pss_nil)
    (pss_one (ps_ret (pe_tup (pa_cons pe_str (pa_cons (pv 6) (pa_cons (pe_callTy call_tuple' rfl T.z_tuple (by decide +kernel) (pa_cons (pv 3) pa_nil)) pa_nil))))))))))), ?_⟩
  walk_at "w0"
  walk_at "l"
  refine i_rIxL (SqL.of hp) atI_0 ?_
  walk_at "l"
  refine i_C (fun hc => ?_) (fun hc => ?_)
  · walk_at "l"
    refine i_rIxL (SqL.of hp) atI_1 ?_
    walk_at "l"
    refine i_rIxL (SqL.of hp) atI_2 ?_
    walk_at "l"
    refine ⟨d1, d2, rfl, b1.1, b1.2, b2.1, b2.2, fun k hk => ?_⟩
    walk_at "l"
    refine i_TupQ (K := K) (by simp) fun t H1 n1 s1 e1 => ?_
    exact q H1 _ (.num k) s1 ⟨t, rfl, e1⟩ hk (.inl ⟨k, rfl⟩)
  walk_at "l"
  refine i_LstQ (by simp) fun M G0 n0 s0 e0 => ?_
  walk_at "l"
  refine i_rIxL (SqL.of (s0 _ _ hp)) atI_2 ?_
  walk_at "l"
  refine ⟨_, rfl, by omega, by omega, i_range (lo := 0) (n := (d2 % 3).toNat) (fun i σ H1 => ∃ (ms : List Mat) (xs : List V) (x4 x5 : Option V), σ = [some (.ref p), some (.ref n), some (.ref z), some (.ref M), x4, x5, none, none] ∧ Same H H1 ∧ H1 M = some (.lst xs) ∧ MatsR K H1 ms xs ∧ (∀ m ∈ ms, MatOk m) ∧ ms.length ≤ i) ⟨[], [], none, none, rfl, s0, e0, rfl, (fun m hm => by cases hm), Nat.zero_le _⟩ ?_ ?_⟩
  · rintro i σ H1 hi ⟨ms, xs, x4, x5, rfl, s1, e1, hms, hok, hlen⟩
    have hzl : zs.length ≤ 1000 := hz.few
    walk_at "l"
    refine i_LstQ (by simp) fun t2 H2 n2 s2 e2 => ?_
    walk_at "l"
    refine i_rCatN ((s1.trans s2) _ _ hz.at_) e2 (by rw [List.length_map, List.length_singleton]; omega) fun t3 H3 n3 s3 e3 => ?_
    have S3 := s1.trans (s2.trans s3)
    walk_at "l"
    refine i_rIxL (SqL.of (S3 _ _ hp)) atI_1 ?_
    walk_at "l"
    refine i_rLen (.inl (SqL.of (S3 _ _ hz.at_))) ?_
    walk_at "l"
    have pz := pos_of hz
    refine i_mod (by omega) ?_
    obtain ⟨u1, hu1, ok1⟩ := hz.pick1 (d1 / 3 + (0 + (i : Int)) * 5)
    refine i_rIxL (SqL.of e3) hu1 ?_
    walk_at "l"
    refine i_rIxL (SqL.of (S3 _ _ hp)) atI_3 ?_
    walk_at "l"
    refine i_rLen (.inl (SqL.of (S3 _ _ hz.at_))) ?_
    refine i_mod pz ?_
    obtain ⟨u2, hu2, ok2⟩ := hz.pick (d3 / 2)
    refine i_rIxL (SqL.of (S3 _ _ hz.at_)) hu2 ?_
    walk_at "l"
    refine i_LstQ (by simp) fun t4 H4 n4 s4 e4 => ?_
    have S4 := S3.trans s4
    have M4 := (s2.trans (s3.trans s4)) _ _ e1
    walk_at "l"
    refine i_tyL (SqL.of M4) ?_
    walk_at "l"
    refine i_rIxL (SqL.of (S4 _ _ hp)) atI_3 ?_
    walk_at "l"
    refine i_rLen (.inl (SqL.of (S4 _ _ hn.at_))) ?_
    refine i_mod (pos_of hn) ?_
    obtain ⟨nm, hnm, okn⟩ := hn.pick (d3 + (0 + (i : Int)))
    refine i_rIxL (SqL.of (S4 _ _ hn.at_)) hnm ?_
    walk_at "l"
    refine i_rIxL (SqL.of (S4 _ _ hp)) atI_2 ?_
    walk_at "l"
    obtain ⟨us, hus, hcut, hu⟩ : ∃ us : List Str, us ≠ [] ∧ cutV [V.str u1, V.str u2] none (some (1 + (d2 / 3 + (0 + (i : Int))) % 2)) = us.map V.str ∧ us.length ≤ 6 ∧ ∀ u ∈ us, WorthOk u := by
      have h2 : (d2 / 3 + (0 + (i : Int))) % 2 = 0 ∨ (d2 / 3 + (0 + (i : Int))) % 2 = 1 := by omega
      rcases h2 with h2 | h2
      · rw [h2]
        exact ⟨[u1], by simp, rfl, by simp, fun u hu => by rw [List.mem_singleton.mp hu]; exact ok1⟩
      · rw [h2]
        exact ⟨[u1, u2], by simp, rfl, by simp, fun u hu => by
          rcases List.mem_cons.mp hu with k | k
          · rw [k]; exact ok1
          · rw [List.mem_singleton.mp k]; exact ok2⟩
    refine i_slLN (SqL.of e4) fun t5 H5 n5 s5 e5 => ?_
    rw [hcut] at e5
    walk_at "l"
    refine i_rTupN (SqL.of e5) fun t6 H6 n6 s6 e6 => ?_
    have S6 := S4.trans (s5.trans s6)
    walk_at "l"
    refine i_rIxL (SqL.of (S6 _ _ hp)) atI_1 ?_
    walk_at "l"
    refine i_TupQ (K := K) (by simp) fun t7 H7 n7 s7 e7 => ?_
    have S7 := S6.trans s7
    have M7 := (s5.trans (s6.trans s7)) _ _ M4
    have hxl := hms.len
    walk_at "l"
    refine i_append M7 (lt_line (by omega)) ?_
    have g := tup_lst (K := K) (ys := xs ++ [.ref t7]) M7
    have g17 : TupLe K H1 H7 := Same.tup (s2.trans (s3.trans (s4.trans (s5.trans (s6.trans s7)))))
    walk_at "l"
    refine ⟨ms ++ [⟨nm, us, _⟩], _, _, _, rfl, same_keep S7 n0, upd_same, MatsR.snoc (m := ⟨nm, us, _⟩) (g _ _ e7) (g _ _ (Same.sqT s7 e6)) (hms.mono (g17.trans g)), ?_, by rw [List.length_append, List.length_singleton]; omega⟩
    intro m hm
    rcases List.mem_append.mp hm with k | k
    · exact hok m k
    · rw [List.mem_singleton.mp k]
      exact ⟨okn, hu.2, hus, hu.1⟩
  · rintro σ H1 ⟨ms, xs, x4, x5, rfl, s1, e1, hms, hok, hlen⟩
    have hok2 : MatsOk ms := ⟨hok, by omega⟩
    walk_at "l"
    refine i_rIxL (SqL.of (s1 _ _ hp)) atI_3 ?_
    walk_at "l"
    refine i_rLen (.inl (SqL.of (s1 _ _ hn.at_))) ?_
    refine i_mod (pos_of hn) ?_
    obtain ⟨nm, hnm, okn⟩ := hn.pick (d3 / 3)
    refine i_rIxL (SqL.of (s1 _ _ hn.at_)) hnm ?_
    walk_at "l"
    refine i_rIxL (SqL.of (s1 _ _ hp)) atI_0 ?_
    walk_at "l"
    refine i_C (fun hc => ?_) (fun hc => ?_)
    · walk_at "l"
      refine i_LstQ (by simp) fun t2 H2 n2 s2 e2 => ?_
      have S2 := s1.trans s2
      walk_at "l"
      refine i_rIxL (SqL.of (S2 _ _ hp)) atI_1 ?_
      walk_at "l"
      obtain ⟨o, ho⟩ := ow_at (i := d1 % 6) (by omega) (by omega)
      refine i_rIxL (SqL.of e2) ho ?_
      walk_at "l"
      refine i_rTupN (SqL.of (s2 _ _ e1)) fun t3 H3 n3 s3 e3 => ?_
      walk_at "l"
      refine i_rIxL (SqL.of ((S2.trans s3) _ _ hp)) atI_2 ?_
      walk_at "l"
      refine i_TupQ (K := K) (by simp) fun t4 H4 n4 s4 e4 => ?_
      exact q H4 _ (.over o nm ms (1 + d2 / 6 % 9)) (S2.trans (s3.trans s4)) ⟨t4, t3, xs, rfl, e4, Same.sqT s4 e3, hms.mono (Same.tup (s2.trans (s3.trans s4)))⟩ ⟨okn.1, hok2, by omega, by omega⟩ (.inr (.inr ⟨_, _, _, _, rfl⟩))
    · walk_at "l"
      refine i_rTupN (SqL.of e1) fun t3 H3 n3 s3 e3 => ?_
      walk_at "l"
      refine i_TupQ (K := K) (by simp) fun t4 H4 n4 s4 e4 => ?_
      exact q H4 _ (.latest nm ms) (s1.trans (s3.trans s4)) ⟨t4, t3, xs, rfl, e4, Same.sqT s4 e3, hms.mono (Same.tup (s3.trans s4))⟩ ⟨okn.1, hok2⟩ (.inr (.inl ⟨_, _, rfl⟩))
end
end Wf


set_option Elab.async false
set_option linter.all false
set_option maxRecDepth 100000
set_option maxHeartbeats 4000000
namespace Wf
open PySem PySem.Spec PyProof.Rows L2
open C8 (pe_gc)
local macro_rules | `(tactic| walk_at "w1") => `(tactic| first
  | with_reducible refine i_seq ?_
  | with_reducible refine i_asg ?_
  | with_reducible refine i_gname ?_
  | ((with_reducible refine' i_var ?ivar ?imain); (case ivar => exact rfl))
  | with_reducible refine i_c ?_
  | with_reducible refine i_op ?_
  | with_reducible refine i_if ?_
  | with_reducible refine i_test ?_
  | with_reducible refine i_tB ?_
  | with_reducible refine i_bl ?_
  | with_reducible refine i_ret ?_
  | with_reducible refine i_retN ?_
  | with_reducible refine i_drop ?_
  | with_reducible refine i_next ?_
  | with_reducible refine i_cons ?_
  | with_reducible refine i_nil ?_
  | with_reducible refine i_cb ?_
  | with_reducible refine i_tup ?_
  | with_reducible refine i_lst ?_
  | with_reducible refine i_fld ?_
  | with_reducible refine i_sfld ?_
  | with_reducible refine i_call ?_
  | with_reducible refine i_meth ?_
  | with_reducible refine i_and ?_
  | with_reducible refine i_or ?_
  | with_reducible refine i_not ?_
  | with_reducible refine i_andV ?_
  | with_reducible refine i_orV ?_
  | with_reducible refine i_notV ?_
  | with_reducible refine i_ifV ?_
  | with_reducible refine i_un ?_
  | with_reducible refine i_neg ?_
  | with_reducible refine i_gcons ?_
  | with_reducible refine i_sl ?_
  | with_reducible refine i_part ?_
  | with_reducible refine i_nopart ?_
  | with_reducible refine i_int ?_
  | with_reducible refine i_inS ?_
  | with_reducible refine i_notInS ?_
  | with_reducible refine i_tyS ?_
  | with_reducible refine i_forL ?_
  | with_reducible refine i_forT ?_
  | with_reducible refine i_forR1 ?_
  | with_reducible refine i_bm ?_
  | with_reducible refine i_bm0 ?_
  | with_reducible refine i_gnil ?_
  | with_reducible refine i_rI0 ?_
  | with_reducible refine i_rIsN ?_
  | with_reducible refine i_rNotN ?_
  | with_reducible refine i_rInt ?_
  | ((with_reducible refine i_rEq ?isc ?imain); (case isc => exact rfl))
  | ((with_reducible refine i_rNe ?isc ?imain); (case isc => exact rfl))
  | with_reducible refine i_T rfl ?_
  | with_reducible refine i_F rfl ?_
  | ((refine' i_T ?icnd ?imain); (case icnd => decide +kernel))
  | ((refine' i_F ?icnd ?imain); (case icnd => decide +kernel))
  | fail)
local macro_rules | `(tactic| walk_at "w") => `(tactic| (repeat' walk_at "w1"))
local macro_rules | `(tactic| walk_at "w0") => `(tactic| (simp only [cxOf, L2.start, List.map_cons, List.map_nil, List.length_cons, List.length_nil, Nat.reduceAdd, Nat.reduceSub, Nat.zero_add, List.replicate_zero, List.replicate_succ, List.cons_append, List.nil_append]))
local macro_rules | `(tactic| walk_at "tk") => `(tactic| (simp only [Tk.sign, Tk.val]))
local macro_rules | `(tactic| walk_at "c") => `(tactic| (dsimp only [List.set_cons_zero, List.set_cons_succ, List.cons_append, List.nil_append]))

local macro_rules | `(tactic| walk_at "len") => `(tactic| (refine le_line ?_; (try simp only [str_app, lit1, lit2, lit3, lit4, lit5, lit6, lit7, lit8, lit9, lit10, lit11, lit12, lit13, lit14, lit15, lit16, lit17, lit18]); omega))
local macro_rules | `(tactic| walk_at "s1") => `(tactic| first
  | walk_at "w1"
  | (refine i_rAddS (by walk_at "len") ?_)
  | fail)
local macro_rules | `(tactic| walk_at "s") => `(tactic| (repeat' walk_at "s1"))
local macro_rules | `(tactic| walk_at "l1") => `(tactic| first
  | with_reducible refine i_lst2 ?_
  | with_reducible refine i_tup2 ?_
  | with_reducible refine i_mod (by decide) ?_
  | with_reducible refine i_div ⟨by decide, by decide⟩ ?_
  | with_reducible refine i_mulR ⟨by decide, by decide⟩ ?_
  | with_reducible refine i_mulL ⟨by decide, by decide⟩ ?_
  | with_reducible refine i_pow ⟨by decide, by decide, by decide⟩ ?_
  | with_reducible refine i_lcT ?_
  | with_reducible refine i_lcL ?_
  | with_reducible refine i_lcR ?_
  | with_reducible refine i_M1 ?_
  | walk_at "w1"
  | (refine i_rAddS (by walk_at "len") ?_)
  | fail)
local macro_rules | `(tactic| walk_at "l") => `(tactic| (repeat' walk_at "l1"))

section
variable {P : Program} {w : World} {K : PySem.W.Frag} {mg : Str → Option Value} {base : Heap} {H0 Hb H H' : Hp}
/-! _law_expression -/
theorem depth_le : ∀ e : Ex, e.depth ≤ e.ops
  | .num _ => Nat.le_refl _
  | .latest _ _ => Nat.le_refl _
  | .over _ _ _ _ => Nat.le_refl _
  | .bin _ l r => by
    have h1 := depth_le l
    have h2 := depth_le r
    show max l.depth r.depth + 1 ≤ l.ops + r.ops + 1
    omega
  | .agg _ _ i => Nat.succ_le_succ (depth_le i)
theorem size_le : ∀ e : Ex, e.size ≤ 2 * e.ops + 1
  | .num _ => Nat.le_refl _
  | .latest _ _ => Nat.le_refl _
  | .over _ _ _ _ => Nat.le_refl _
  | .bin _ l r => by
    have h1 := size_le l
    have h2 := size_le r
    show l.size + r.size + 1 ≤ 2 * (l.ops + r.ops + 1) + 1
    omega
  | .agg _ _ i => by
    have h1 := size_le i
    show i.size + 1 ≤ 2 * (i.ops + 1) + 1
    omega
structure Good (e : Ex) : Prop where
  ok : e.Ok
  kd : e.kd ≠ none
  sel : e.sel ≤ 6
  ops : e.ops ≤ 8
def RowsR (K : PySem.W.Frag) (H : Hp) : List Ex → List V → Prop
  | [], vs => vs = []
  | e :: es, vs => ∃ (r : List V) (v : V), vs = r ++ [v] ∧ ER K H e v ∧ RowsR K H es r
theorem RowsR.mono (t : TupLe K H H') : ∀ {es : List Ex} {vs : List V}, RowsR K H es vs → RowsR K H' es vs
  | [], _, h => h
  | _ :: _, _, ⟨r, v, h1, h2, h3⟩ => ⟨r, v, h1, h2.mono t, RowsR.mono t h3⟩
theorem RowsR.len : ∀ {es : List Ex} {vs : List V}, RowsR K H es vs → vs.length = es.length
  | [], _, h => by rw [show _ = [] from h]; rfl
  | _ :: _, _, ⟨r, v, h1, h2, h3⟩ => by rw [h1, List.length_append, RowsR.len h3]; rfl
structure RowsI (K : PySem.W.Frag) (H : Hp) (R : Addr) (es : List Ex) (H1 : Hp) (xs : List V) : Prop where
  same : Same H H1
  new : H R = none
  at_ : H1 R = some (.lst xs)
  rows : RowsR K H1 es xs
  ok : ∀ e ∈ es, e.Ok ∧ e.kd ≠ none
theorem RowsI.grow {R : Addr} {es : List Ex} {H1 H2 : Hp} {xs : List V} (I : RowsI K H R es H1 xs) (s : Same H1 H2) : RowsI K H R es H2 xs := ⟨I.same.trans s, I.new, s _ _ I.at_, I.rows.mono (Same.tup s), I.ok⟩
def KeepB (H1 H2 : Hp) (R : Addr) : Prop := ∀ b u, H1 b = some u → b ≠ R → H2 b = some u
theorem keep_upd {H1 : Hp} {R : Addr} {o : HO} : KeepB H1 (upd H1 R o) R := fun b u h n => by rw [upd_ne n]; exact h
theorem two_of {es : List Ex} (h : 1 < es.length) : ∃ e2 e1 es', es = e2 :: e1 :: es' := by
  match es, h with
  | e2 :: e1 :: es', _ => exact ⟨e2, e1, es', rfl⟩
theorem one_of {es : List Ex} (h : 0 < es.length) : ∃ e es', es = e :: es' := by
  match es, h with
  | e :: es', _ => exact ⟨e, es', rfl⟩
theorem i_popR {R : Addr} {e : Ex} {es : List Ex} {H1 : Hp} {xs : List V} {Q : VK} (I : RowsI K H R (e :: es) H1 xs) (h : ∀ v xs' H2, TupLe K H1 H2 → KeepB H1 H2 R → ER K H2 e v → RowsI K H R es H2 xs' → Q v H2) : rPop (.ref R) [] H1 Q := by
  obtain ⟨r, v, rfl, hv, hr⟩ := I.rows
  have t := tup_lst (K := K) (ys := r) I.at_
  exact i_pop I.at_ (h v r _ t (keep_upd) (hv.mono t) ⟨same_keep I.same I.new, I.new, upd_same, hr.mono t, fun e he => I.ok e (List.mem_cons_of_mem _ he)⟩)
theorem i_pushR {R : Addr} {e : Ex} {es : List Ex} {H1 : Hp} {xs : List V} {v : V} {Q : VK} (I : RowsI K H R es H1 xs) (hv : ER K H1 e v) (ok : e.Ok ∧ e.kd ≠ none) (hl : es.length ≤ 100) (h : ∀ xs' H2, TupLe K H1 H2 → KeepB H1 H2 R → RowsI K H R (e :: es) H2 xs' → Q .non H2) : rAppend (.ref R) [v] H1 Q := by
  have hx := I.rows.len
  have t := tup_lst (K := K) (ys := xs ++ [v]) I.at_
  refine i_append I.at_ (lt_line (by omega)) (h (xs ++ [v]) _ t (keep_upd) ⟨same_keep I.same I.new, I.new, upd_same, ⟨xs, v, rfl, hv.mono t, I.rows.mono t⟩, fun x hx => ?_⟩)
  rcases List.mem_cons.mp hx with k | k
  · rw [k]; exact ok
  · exact I.ok x k
theorem i_ifB {tt : TT} {t u : TS} {D : Ends} {σ : L2.St} (Pv : Hp → Prop) (hu : ∀ H', Pv H' → u D σ H') (ht : ∀ N : Hp → Prop, (∀ H', Pv H' → N H') → tt σ H fun b H1 => if b = true then t D σ H1 else N H1) : tIfS tt t u D σ H := ht (u D σ) hu
theorem rg5 (n : Nat) (h : n ≤ 1000) : RgC 0 ((n : Int) - 4) 5 (n / 5) := by
  have e : Builtin.Range.rangeSize 0 ((n : Int) - 4) 5 = (n / 5 : Nat) := by
    unfold Builtin.Range.rangeSize
    simp only [show (5 : Int) > 0 by decide, if_true]
    split <;> omega
  refine ⟨by decide, by decide, ?_, e⟩
  unfold Builtin.Range.small
  rw [e]
  simp only [Builtin.Range.rangeFitsLong, Bool.and_eq_true, Bool.or_eq_true, decide_eq_true_eq, beq_iff_eq, show (5 : Int) > 0 by decide, if_true]
  omega
theorem i_forR3 {tl : TA} {g : TG} {t : TS} {D : Ends} {σ : L2.St} (h : tl σ H fun vs H1 => ∃ (i j c : Int) (n : Nat), vs = [.int i, .int j, .int c] ∧ RgC i j c n ∧ ForW (Itc i c n) g t D σ H1) : tFor (iRng3 tl) g t D σ H := h
theorem cut5 {ds : List Int} {i : Nat} (h : 5 * i + 5 ≤ ds.length) : ∃ a b c d e : Int, cutV (ds.map V.int) (some (0 + (i : Int) * 5)) (some (0 + (i : Int) * 5 + 5)) = [.int a, .int b, .int c, .int d, .int e] ∧ ∀ x ∈ [a, b, c, d, e], x ∈ ds := by
  have e1 : 0 + (i : Int) * 5 = ((5 * i : Nat) : Int) := by omega
  have e2 : 0 + (i : Int) * 5 + 5 = ((5 * i + 5 : Nat) : Int) := by omega
  have hl : ((ds.drop (5 * i)).take 5).length = 5 := by
    rw [List.length_take, List.length_drop]
    omega
  have hm : ∀ x ∈ (ds.drop (5 * i)).take 5, x ∈ ds := fun x hx => List.mem_of_mem_drop (List.mem_of_mem_take hx)
  have hc : cutV (ds.map V.int) (some (0 + (i : Int) * 5)) (some (0 + (i : Int) * 5 + 5)) = ((ds.drop (5 * i)).take 5).map V.int := by
    unfold cutV
    rw [e2, e1, HT.sIx_nat, HT.sIx_nat, List.length_map, Nat.min_eq_left h, Nat.min_eq_left (by omega : 5 * i ≤ ds.length), Nat.add_sub_cancel_left, ← List.map_drop, ← List.map_take]
  rw [hc]
  generalize (ds.drop (5 * i)).take 5 = l at hl hm
  match l, hl, hm with
  | [a, b, c, d, e], _, hm => exact ⟨a, b, c, d, e, rfl, hm⟩
theorem aw_at {i : Int} (h0 : 0 ≤ i) (h : i < 4) : ∃ o : Aw, atI [V.str ("sum" : Str), .str ("min" : Str), .str ("max" : Str), .str ("count" : Str)] i = some (.str o.str) := by
  obtain ⟨n, rfl⟩ := Int.eq_ofNat_of_zero_le h0
  match n, h with
  | 0, _ => exact ⟨.sum, atI_nat rfl⟩
  | 1, _ => exact ⟨.min, atI_nat rfl⟩
  | 2, _ => exact ⟨.max, atI_nat rfl⟩
  | 3, _ => exact ⟨.count, atI_nat rfl⟩
  | n + 4, h => omega
theorem leaf_facts {e : Ex} (h : Leaf e) : e.kd ≠ none ∧ e.ops = 0 ∧ e.sel ≤ 1 := by
  rcases h with ⟨n, rfl⟩ | ⟨m, ms, rfl⟩ | ⟨o, m, ms, k, rfl⟩
  · exact ⟨by simp [Ex.kd], rfl, Nat.zero_le _⟩
  · exact ⟨by simp [Ex.kd], rfl, Nat.le_refl _⟩
  · exact ⟨by simp [Ex.kd], rfl, Nat.le_refl _⟩
theorem leaf_head {e : Ex} {v : V} (h : Leaf e) (he : ER K H e v) : ∃ a x r, v = .ref a ∧ SqT K H a (.str x :: r) ∧ (x = ("number" : Str) → e.sel = 0) := by
  rcases h with ⟨n, rfl⟩ | ⟨m, ms, rfl⟩ | ⟨o, m, ms, k, rfl⟩
  · obtain ⟨a, rfl, h1⟩ := he
    exact ⟨a, _, _, rfl, h1, fun _ => rfl⟩
  · obtain ⟨a, b, xs, rfl, h1, h2, h3⟩ := he
    exact ⟨a, _, _, rfl, h1, fun k => absurd k (by decide +kernel)⟩
  · obtain ⟨a, b, xs, rfl, h1, h2, h3⟩ := he
    exact ⟨a, _, _, rfl, h1, fun k => absurd k (by decide +kernel)⟩
def WExpr (K : PySem.W.Frag) (H : Hp) (p n z R : Addr) (μ : Nat) (σ : L2.St) (H1 : Hp) : Prop := ∃ (es : List Ex) (xs : List V) (sel ops : Nat) (x7 x8 x9 x10 x11 x12 x13 x14 : Option V), μ = es.length ∧ σ = [some (.ref p), some (.ref n), some (.ref z), some (.bl true), some (.ref R), some (.int sel), some (.int ops), x7, x8, x9, x10, x11, x12, x13, x14] ∧ RowsI K H R es H1 xs ∧ (es.map Ex.sel).sum ≤ sel ∧ (es.map Ex.ops).sum ≤ ops ∧ sel ≤ 6 ∧ ops ≤ 8 ∧ es.length ≤ 4
def spExpr (K : PySem.W.Frag) : Sp := fun vs H Q _ => ∃ (p n z : Addr) (ds : List Int) (ns zs : List Str), vs = [.ref p, .ref n, .ref z, .bl true] ∧ H p = some (.lst (ds.map V.int)) ∧ DrawOk ds ∧ ds.length ≤ 1000 ∧ Stock H n ns LabelOk ∧ Stock H z zs WorthOk ∧
  ∀ H' v x, Same H H' → ER K H' x v → Good x → Q v H'
theorem sc__law_expression : FnScope (["_law_draws_here", "_law_names_here", "_law_worths_here", "_law_sound", "_law_rows", "_law_selectors", "_law_operators", "_law_k", "_law_part", "_law_right", "_law_left", "_law_inner", "_law_some", "_law_leaf_here", "_law_j"] : List Str) (["_law_draws_here", "_law_names_here", "_law_worths_here", "_law_sound"] : List Str) (defScope s__law_expression) := ⟨rfl, rfl, rfl, by decide +kernel, rfl, by decide +kernel, by decide +kernel⟩
theorem k_law_expression (T : Txt w K mg) : Cal P w K mg base 12 "_law_expression" (spExpr K) := by
  have G__law_leaf := k_law_leaf (P := P) (base := base) T
  have G__law_kind := k_law_kind (P := P) (base := base) T 9
  have G__law_sign := k_law_sign (P := P) (base := base) (n := 9) T
  obtain ⟨fd, F⟩ := T.d__law_expression
  refine ⟨_, fd, ["_law_draws_here", "_law_names_here", "_law_worths_here", "_law_sound"], fn_ok F sc__law_expression (fun vs H Q E h => ?_) (fun cdv A outer s H vs Q E hr h => ?_), T.g__law_expression, F.kp, F.bindsN (fun _ _ _ _ _ _ us hl => match us, hl with | [_, _, _, _], _ => rfl)⟩
  · obtain ⟨_, _, _, _, _, _, rfl, _⟩ := h
    rfl
  obtain ⟨p, n, z, ds, ns, zs, rfl, hp, hd, hdl, hn, hz, q⟩ := h
  refine ⟨_, (pss_cons (ps_set (i := 4) sc__law_expression.nd rfl (by first | exact Or.inl rfl | exact Or.inr rfl) (pe_lst pa_nil))
    (pss_cons (ps_set (i := 5) sc__law_expression.nd rfl (by first | exact Or.inl rfl | exact Or.inr rfl) pe_int)
    (pss_cons (ps_set (i := 6) sc__law_expression.nd rfl (by first | exact Or.inl rfl | exact Or.inr rfl) pe_int)
    (pss_cons (ps_for PassesOwn.never rfl (pi_range3 rfl T.z_range (pa_cons pe_int (pa_cons (pe_op op_sub (pe_callB call_len' rfl T.z_len PySem.boot_len (pa_cons (pv 0) pa_nil)) pe_int) (pa_cons pe_int pa_nil)))) (pg_name (i := 7) sc__law_expression.nd rfl (by first | exact Or.inl rfl | exact Or.inr rfl)) (pss_cons (ps_set (i := 8) sc__law_expression.nd rfl (by first | exact Or.inl rfl | exact Or.inr rfl) (pe_slice sl_list (pv 0) (po_some (pv 7)) (po_some (pe_op op_add (pv 7) pe_int))))
    (pss_one (ps_if (PW.pt (pw_and (pt_cmpR op_eq (pe_op op_mod (pe_ix ix_list (pv 8) pe_int (fun _ _ => rfl)) pe_int) pe_int (nomark _)) (pw_and (pt_cmpR op_gt (pe_callB call_len' rfl T.z_len PySem.boot_len (pa_cons (pv 4) pa_nil)) pe_int (nomark _)) (pw_and1 (pt_cmpR op_lt (pv 6) pe_int (nomark _)))))) (pss_cons (ps_set (i := 9) sc__law_expression.nd rfl (by first | exact Or.inl rfl | exact Or.inr rfl) (pe_bm0 PySem.F.plainAttrs_list PySem.F.slot_list_pop PySem.F.type_list_pop mt_pop (pv 4)))
    (pss_cons (ps_set (i := 10) sc__law_expression.nd rfl (by first | exact Or.inl rfl | exact Or.inr rfl) (pe_bm0 PySem.F.plainAttrs_list PySem.F.slot_list_pop PySem.F.type_list_pop mt_pop (pv 4)))
    (pss_cons (ps_expr (pe_bm PySem.F.plainAttrs_list PySem.F.slot_list_append PySem.F.type_list_append mt_append (pv 4) (pa_cons (pe_tup (pa_cons pe_str (pa_cons (pe_c G__law_sign hr (by omega) rfl (pa_cons (pe_ix ix_list (pv 8) pe_int (fun _ _ => rfl)) (pa_cons (pv 10) (pa_cons (pv 9) (pa_cons (pv 3) pa_nil))))) (pa_cons (pv 10) (pa_cons (pv 9) pa_nil))))) pa_nil)))
    (pss_one (ps_set (i := 6) sc__law_expression.nd rfl (by first | exact Or.inl rfl | exact Or.inr rfl) (pe_op op_add (pv 6) pe_int)))))) (pss_one (ps_if (PW.pt (pw_and (pt_cmpR op_eq (pe_op op_mod (pe_ix ix_list (pv 8) pe_int (fun _ _ => rfl)) pe_int) pe_int (nomark _)) (pw_and (pt_truth (pv 4) (by intro _; rfl)) (pw_and (pt_cmpR op_lt (pv 6) pe_int (nomark _)) (pw_and1 (PW.pt (pw_or (pt_cmpR op_eq (pe_c G__law_kind hr (by omega) rfl (pa_cons (pe_ix ix_list (pv 4) (pe_un un_neg pe_int) (fun _ _ => rfl)) pa_nil)) pe_str (nomark _)) (pw_or1 (pt_not (pt_val (pv 3))))))))))) (pss_cons (ps_set (i := 11) sc__law_expression.nd rfl (by first | exact Or.inl rfl | exact Or.inr rfl) (pe_bm0 PySem.F.plainAttrs_list PySem.F.slot_list_pop PySem.F.type_list_pop mt_pop (pv 4)))
    (pss_cons (ps_setLc (i := 12) (own := [("_law_j", 14)]) (g := gName 14) (tt := tYes) rfl sc__law_expression.nd rfl rfl (sw_true rfl rfl rfl (by decide +kernel)) (pi_range1 rfl T.z_range (pa_cons (pe_op op_mod (pe_ix ix_list (pv 8) pe_int (fun _ _ => rfl)) pe_int) pa_nil)) (blkOk_by (own := [("_law_j", 14)]) (N := ["_law_draws_here", "_law_names_here", "_law_worths_here", "_law_sound", "_law_rows", "_law_selectors", "_law_operators", "_law_k", "_law_part", "_law_right", "_law_left", "_law_inner", "_law_some", "_law_leaf_here", "_law_j"]) (sc := defScope s__law_expression) (by decide +kernel)) (fun _ _ _ _ _ => (pg_name (i := 14) sc__law_expression.nd rfl (by first | exact Or.inl rfl | exact Or.inr rfl))) (fun _ _ _ _ _ => pts_nil) (fun _ _ _ _ _ => (pe_ix (ix_listK (K := K) rfl) (pv 1) (pe_op op_mod (pe_op op_add (pe_ix (ix_listK (K := K) rfl) (pv 8) pe_int (fun _ _ => rfl)) (pv 14)) (pe_callB (call_lenK (K := K) rfl) rfl T.z_len PySem.boot_len (pa_cons (pv 1) pa_nil))) (fun _ _ => rfl))))
    (pss_cons (ps_expr (pe_bm PySem.F.plainAttrs_list PySem.F.slot_list_append PySem.F.type_list_append mt_append (pv 4) (pa_cons (pe_tup (pa_cons pe_str (pa_cons (pe_ix ix_list (pe_lst (pa_cons pe_str (pa_cons pe_str (pa_cons pe_str (pa_cons pe_str pa_nil))))) (pe_op op_mod (pe_ix ix_list (pv 8) pe_int (fun _ _ => rfl)) pe_int) (fun _ _ => rfl)) (pa_cons (pe_callTy call_tuple' rfl T.z_tuple (by decide +kernel) (pa_cons (pv 12) pa_nil)) (pa_cons (pv 11) pa_nil))))) pa_nil)))
    (pss_one (ps_set (i := 6) sc__law_expression.nd rfl (by first | exact Or.inl rfl | exact Or.inr rfl) (pe_op op_add (pv 6) pe_int)))))) (pss_one (ps_if (pt_cmpR op_lt (pe_callB call_len' rfl T.z_len PySem.boot_len (pa_cons (pv 4) pa_nil)) pe_int (nomark _)) (pss_cons (ps_set (i := 13) sc__law_expression.nd rfl (by first | exact Or.inl rfl | exact Or.inr rfl) (pe_c G__law_leaf hr (by omega) rfl (pa_cons (pv 8) (pa_cons (pv 1) (pa_cons (pv 2) pa_nil)))))
    (pss_cons (ps_if (PW.pt (pw_and (pt_cmpR op_ne (pe_ix ix_tup (pv 13) pe_int (fun _ _ => rfl)) pe_str (nomark _)) (pw_and1 (pt_cmpR op_eq (pv 5) pe_int (nomark _))))) (pss_one (ps_set (i := 13) sc__law_expression.nd rfl (by first | exact Or.inl rfl | exact Or.inr rfl) (pe_tup (pa_cons pe_str (pa_cons (pe_ix ix_list (pv 8) pe_int (fun _ _ => rfl)) pa_nil))))) pss_nil)
    (pss_cons (ps_if (pt_cmpR op_ne (pe_ix ix_tup (pv 13) pe_int (fun _ _ => rfl)) pe_str (nomark _)) (pss_one (ps_set (i := 5) sc__law_expression.nd rfl (by first | exact Or.inl rfl | exact Or.inr rfl) (pe_op op_add (pv 5) pe_int))) pss_nil)
    (pss_one (ps_expr (pe_bm PySem.F.plainAttrs_list PySem.F.slot_list_append PySem.F.type_list_append mt_append (pv 4) (pa_cons (pv 13) pa_nil))))))) pss_nil))))))))
    (pss_cons (ps_while PassesOwn.never (PW.pt (pw_and (pt_cmpR op_gt (pe_callB call_len' rfl T.z_len PySem.boot_len (pa_cons (pv 4) pa_nil)) pe_int (nomark _)) (pw_and1 (pt_cmpR op_lt (pv 6) pe_int (nomark _))))) (pss_cons (ps_set (i := 9) sc__law_expression.nd rfl (by first | exact Or.inl rfl | exact Or.inr rfl) (pe_bm0 PySem.F.plainAttrs_list PySem.F.slot_list_pop PySem.F.type_list_pop mt_pop (pv 4)))
    (pss_cons (ps_set (i := 10) sc__law_expression.nd rfl (by first | exact Or.inl rfl | exact Or.inr rfl) (pe_bm0 PySem.F.plainAttrs_list PySem.F.slot_list_pop PySem.F.type_list_pop mt_pop (pv 4)))
    (pss_cons (ps_expr (pe_bm PySem.F.plainAttrs_list PySem.F.slot_list_append PySem.F.type_list_append mt_append (pv 4) (pa_cons (pe_tup (pa_cons pe_str (pa_cons (pe_c G__law_sign hr (by omega) rfl (pa_cons (pe_op op_add (pv 6) (pe_callB call_len' rfl T.z_len PySem.boot_len (pa_cons (pv 0) pa_nil))) (pa_cons (pv 10) (pa_cons (pv 9) (pa_cons (pv 3) pa_nil))))) (pa_cons (pv 10) (pa_cons (pv 9) pa_nil))))) pa_nil)))
    (pss_one (ps_set (i := 6) sc__law_expression.nd rfl (by first | exact Or.inl rfl | exact Or.inr rfl) (pe_op op_add (pv 6) pe_int)))))))
    (pss_cons (ps_if (pt_not (pt_truth (pv 4) (by intro _; rfl))) (pss_one (ps_ret (pe_tup (pa_cons pe_str (pa_cons pe_int pa_nil))))) pss_nil)
    (pss_one (ps_ret (pe_ix ix_list (pv 4) (pe_un un_neg pe_int) (fun _ _ => rfl)))))))))), ?_⟩
  walk_at "w0"
  walk_at "l"
  refine i_LstQ (by simp) fun R G0 n0 s0 e0 => ?_
  walk_at "l"
  refine i_forR3 ?_
  walk_at "l"
  refine i_rLen (.inl (SqL.of (s0 _ _ hp))) ?_
  walk_at "l"
  refine ⟨_, _, _, _, rfl, by rw [List.length_map]; exact rg5 ds.length hdl, for_rangeC (fun i σ H1 => ∃ (es : List Ex) (xs : List V) (sel ops : Nat) (x7 x8 x9 x10 x11 x12 x13 x14 : Option V), σ = [some (.ref p), some (.ref n), some (.ref z), some (.bl true), some (.ref R), some (.int sel), some (.int ops), x7, x8, x9, x10, x11, x12, x13, x14] ∧ RowsI K H R es H1 xs ∧ (es.map Ex.sel).sum ≤ sel ∧ (es.map Ex.ops).sum ≤ ops ∧ sel ≤ 6 ∧ ops ≤ 8 ∧ es.length ≤ 4) ⟨[], [], 0, 0, _, _, _, _, _, _, _, _, rfl, ⟨s0, n0, e0, rfl, fun e he => by cases he⟩, Nat.le_refl _, Nat.le_refl _, by decide, by decide, by decide⟩ ?_ ?_⟩
  · rintro i σ H1 hi ⟨es, xs, sel, ops, x7, x8, x9, x10, x11, x12, x13, x14, rfl, I, hsel, hops, hs6, ho8, hfew⟩
    walk_at "l"
    refine i_slLN (SqL.of (I.same _ _ hp)) fun pt H2 nt s2 et => ?_
    obtain ⟨d0, d1, d2, d3, d4, ec, hdm⟩ := cut5 (ds := ds) (i := i) (by omega)
    rw [ec] at et
    have hd5 : DrawOk [d0, d1, d2, d3, d4] := fun d hd' => hd d (hdm d hd')
    have I2 := I.grow s2
    have hxl := I.rows.len
    have hpR : pt ≠ R := (ne_of_none I.at_ nt).symm
    have b0 := hd5 d0 (by simp)
    have b2 := hd5 d2 (by simp)
    refine i_gname ?_

    with_reducible refine i_ifB (fun H' => H2 = H') ?_ ?_
    · intro H' eH
      subst eH
      with_reducible refine i_ifB (fun H' => Same H2 H') ?_ ?_
      · intro H3 s3
        have I3 := I2.grow s3
        have et3 := s3 _ _ et
        walk_at "l"
        refine i_rLen (.inl (SqL.of I3.at_)) ?_
        walk_at "l"
        refine i_C (fun hc => ?_) (fun hc => ?_)
        · have hc := of_decide_eq_true hc
          walk_at "l"
          refine ⟨pt, n, z, d0, d1, d2, d3, d4, ns, zs, rfl, ⟨et3, hd5⟩, hn.same I3.same, hz.same I3.same, fun H4 v x s4 hv hok hleaf => ?_⟩
          have I4 := I3.grow s4
          obtain ⟨lk, lo, ls⟩ := leaf_facts hleaf
          obtain ⟨a, y, r, rfl, ha, hnum⟩ := leaf_head hleaf hv
          walk_at "l"
          refine i_rIxT ha atI_0 ?_
          walk_at "l"
          by_cases hy : y = ("number" : Str)
          · have hb : decide (V.str y = V.str ("number" : Str)) = true := decide_eq_true (by rw [hy])
            have hs0 := hnum hy
            refine i_F (by rw [hb]; rfl) ?_
            walk_at "l"
            refine i_rIxT ha atI_0 ?_
            walk_at "l"
            refine i_F (by rw [hb]; rfl) ?_
            walk_at "l"
            refine i_tyL (SqL.of I4.at_) ?_
            walk_at "l"
            refine i_pushR (e := x) I4 hv ⟨hok, lk⟩ (by omega) fun xs7 H7 t7 k7 I7 => ?_
            walk_at "l"
            exact ⟨x :: es, xs7, sel, ops, _, _, _, _, _, _, _, _, rfl, I7, by simp only [List.map_cons, List.sum_cons]; omega, by simp only [List.map_cons, List.sum_cons]; omega, by omega, ho8, by simp only [List.length_cons]; omega⟩
          · have hb : decide (V.str y = V.str ("number" : Str)) = false := decide_eq_false (fun e => hy (V.str.inj e))
            refine i_T (by rw [hb]; rfl) ?_
            walk_at "l"
            refine i_C (fun hc6 => ?_) (fun hc6 => ?_)
            · walk_at "l"
              refine i_rIxL (SqL.of (s4 _ _ et3)) atI_0 ?_
              walk_at "l"
              refine i_TupQ (K := K) (by simp) fun t5 H5 n5 s5 e5 => ?_
              walk_at "l"
              refine i_rIxT e5 atI_0 ?_
              have I5 := I4.grow s5
              have hz0 : (Ex.num d0).sel = 0 := rfl
              have hz1 : (Ex.num d0).ops = 0 := rfl
              walk_at "l"
              refine i_tyL (SqL.of I5.at_) ?_
              walk_at "l"
              refine i_pushR (e := (.num d0)) I5 ⟨t5, rfl, e5⟩ ⟨show d0.natAbs < 1000000000000000 from by omega, by simp [Ex.kd]⟩ (by omega) fun xs7 H7 t7 k7 I7 => ?_
              walk_at "l"
              exact ⟨(.num d0) :: es, xs7, sel, ops, _, _, _, _, _, _, _, _, rfl, I7, by simp only [List.map_cons, List.sum_cons]; omega, by simp only [List.map_cons, List.sum_cons]; omega, by omega, ho8, by simp only [List.length_cons]; omega⟩
            · have hne : sel ≠ 6 := fun e => of_decide_eq_false hc6 (by rw [e]; rfl)
              walk_at "l"
              refine i_rIxT ha atI_0 ?_
              walk_at "l"
              refine i_T (by rw [hb]; rfl) ?_
              walk_at "l"
              refine i_tyL (SqL.of I4.at_) ?_
              walk_at "l"
              refine i_pushR (e := x) I4 hv ⟨hok, lk⟩ (by omega) fun xs7 H7 t7 k7 I7 => ?_
              walk_at "l"
              exact ⟨x :: es, xs7, (sel + 1), ops, _, _, _, _, _, _, _, _, rfl, I7, by simp only [List.map_cons, List.sum_cons]; omega, by simp only [List.map_cons, List.sum_cons]; omega, by omega, ho8, by simp only [List.length_cons]; omega⟩
        · walk_at "l"
          exact ⟨es, xs, sel, ops, _, _, _, _, _, _, _, _, rfl, I3, hsel, hops, hs6, ho8, hfew⟩
      · intro N hN
        walk_at "l"
        refine i_rIxL (SqL.of et) atI_4 ?_
        walk_at "l"
        refine i_C (fun hc => ?_) (fun hc => ?_)
        · walk_at "l"
          refine i_tru (SqL.of I2.at_) ?_
          refine i_C (fun hc2 => ?_) (fun hc2 => ?_)
          · have hpos : 0 < es.length := by
              rw [← hxl]
              cases xs with
              | nil => cases hc2
              | cons y ys => simp
            obtain ⟨e, es', rfl⟩ := one_of hpos
            walk_at "l"
            refine i_C (fun hc3 => ?_) (fun hc3 => ?_)
            · have hc3 := of_decide_eq_true hc3
              simp only [List.map_cons, List.sum_cons] at hsel hops
              have ok1 := I2.ok e List.mem_cons_self
              have dp1 := depth_le e
              simp only [List.length_cons] at hfew
              obtain ⟨r, v, rfl, hv, hr2⟩ := I2.rows
              walk_at "l"
              refine i_rIxL (SqL.of I2.at_) (atI_last r v) ?_
              walk_at "l"
              refine ⟨e, v, rfl, hv, by omega, fun H3 s3 => ?_⟩
              obtain ⟨k, hk⟩ : ∃ k, e.kd = some k := by
                cases h : e.kd with
                | none => exact absurd h ok1.2
                | some a => exact ⟨a, rfl⟩
              rw [hk]
              cases k with
              | false =>
                walk_at "l"
                exact hN _ s3
              | true =>
                have I3 := I2.grow s3
                walk_at "l"
                refine i_tyL (SqL.of I3.at_) ?_
                walk_at "l"
                refine i_popR I3 fun v4 xs4 H4 t4 k4 hv4 I4 => ?_
                have et4 := k4 _ _ (s3 _ _ et) hpR
                walk_at "l"
                refine i_rIxL (SqL.of et4) atI_2 ?_
                walk_at "l"
                refine i_lcRng (K := K) (fun j H' y => ∃ s, LabelOk s ∧ y = .str s) (by omega) (fun _ _ _ _ _ h => h) (by omega) (fun j Hi R' hj si hR => ?_) (fun D H5 ys s5 hD hlen hY => ?_)
                · walk_at "l"
                  refine ⟨rfl, ?_⟩
                  walk_at "l"
                  refine i_rIxL (SqL.of (si _ _ et4)) atI_1 ?_
                  walk_at "l"
                  have hnn := hn.same (I4.same.trans si)
                  refine i_rLen (.inl (SqL.of hnn.at_)) ?_
                  refine i_mod (pos_of hnn) ?_
                  obtain ⟨nm, hnm, okn⟩ := hnn.pick (d1 + (j : Int))
                  refine i_rIxL (SqL.of hnn.at_) hnm ?_
                  exact hR _ _ (Same.refl Hi) ⟨nm, okn, rfl⟩
                · obtain ⟨ss, ess, hss⟩ := strs_of ys (fun j y hy => hY j y hy)
                  have hsl : ss.length ≤ 6 := by
                    have : ys.length = ss.length := by rw [ess, List.length_map]
                    omega
                  rw [ess] at hD
                  have I5 := I4.grow s5
                  walk_at "l"
                  refine i_tyL (SqL.of I5.at_) ?_
                  walk_at "l"
                  refine i_LstQ (by simp) fun t6 H6 n6 s6 e6 => ?_
                  walk_at "l"
                  refine i_rIxL (SqL.of (s6 _ _ (s5 _ _ et4))) atI_0 ?_
                  walk_at "l"
                  obtain ⟨aw, haw⟩ := aw_at (i := d0 % 4) (by omega) (by omega)
                  refine i_rIxL (SqL.of e6) haw ?_
                  walk_at "l"
                  refine i_rTupN (SqL.of (s6 _ _ hD)) fun t8 H8 n8 s8 e8 => ?_
                  walk_at "l"
                  refine i_TupQ (K := K) (by simp) fun t9 H9 n9 s9 e9 => ?_
                  have S59 := s5.trans (s6.trans (s8.trans s9))
                  walk_at "l"
                  refine i_pushR (e := .agg aw ss e) (I4.grow S59) ⟨t9, t8, v4, rfl, e9, Same.sqT s9 e8, hv4.mono (Same.tup S59)⟩ ⟨⟨fun y hy => (hss y hy).1, hsl, ok1.1⟩, by show (if e.kd = some true then some true else none) ≠ none; rw [if_pos hk]; simp⟩ (by omega) fun xs7 H7 t7 k7 I7 => ?_
                  walk_at "l"
                  refine ⟨.agg aw ss e :: es', xs7, sel, ops + 1, _, _, _, _, _, _, _, _, rfl, I7, ?_, ?_, hs6, by omega, by simp only [List.length_cons]; omega⟩
                  · simp only [List.map_cons, List.sum_cons, Ex.sel]
                    omega
                  · simp only [List.map_cons, List.sum_cons, Ex.ops]
                    omega
            · walk_at "l"
              exact hN _ (Same.refl _)
          · walk_at "l"
            exact hN _ (Same.refl _)
        · walk_at "l"
          exact hN _ (Same.refl _)
    · intro N hN
      walk_at "l"
      refine i_rIxL (SqL.of et) atI_4 ?_
      walk_at "l"
      refine i_C (fun hc => ?_) (fun hc => ?_)
      · walk_at "l"
        refine i_rLen (.inl (SqL.of I2.at_)) ?_
        walk_at "l"
        refine i_C (fun hc2 => ?_) (fun hc2 => ?_)
        · have hc2 := of_decide_eq_true hc2
          walk_at "l"
          refine i_C (fun hc3 => ?_) (fun hc3 => ?_)
          · have hc3 := of_decide_eq_true hc3
            obtain ⟨e2, e1, es', rfl⟩ := two_of (es := es) (by omega)
            simp only [List.map_cons, List.sum_cons] at hsel hops
            have ok2 := I2.ok e2 List.mem_cons_self
            have ok1 := I2.ok e1 (List.mem_cons_of_mem _ List.mem_cons_self)
            have dp1 := depth_le e1
            have dp2 := depth_le e2
            simp only [List.length_cons] at hfew
            walk_at "l"
            refine i_tyL (SqL.of I2.at_) ?_
            walk_at "l"
            refine i_popR I2 fun v2 xs3 H3 t3 k3 hv2 I3 => ?_
            walk_at "l"
            refine i_tyL (SqL.of I3.at_) ?_
            walk_at "l"
            refine i_popR I3 fun v1 xs4 H4 t4 k4 hv1 I4 => ?_
            walk_at "l"
            refine i_tyL (SqL.of I4.at_) ?_
            walk_at "l"
            refine i_rIxL (SqL.of (k4 _ _ (k3 _ _ et hpR) hpR)) atI_0 ?_
            walk_at "l"
            refine ⟨_, e1, e2, v1, v2, rfl, hv1, hv2.mono t4, by omega, by omega, ok1.2, ok2.2, fun H5 o s5 hkd => ?_⟩
            walk_at "l"
            refine i_TupQ (K := K) (by simp) fun t6 H6 n6 s6 e6 => ?_
            walk_at "l"
            refine i_pushR (e := .bin o e1 e2) (I4.grow (s5.trans s6)) ⟨t6, v1, v2, rfl, e6, hv1.mono (Same.tup (s5.trans s6)), hv2.mono (t4.trans (Same.tup (s5.trans s6)))⟩ ⟨⟨ok1.1, ok2.1⟩, hkd⟩ (by omega) fun xs7 H7 t7 k7 I7 => ?_
            walk_at "l"
            refine ⟨.bin o e1 e2 :: es', xs7, sel, ops + 1, _, _, _, _, _, _, _, _, rfl, I7, ?_, ?_, hs6, by omega, by simp only [List.length_cons]; omega⟩
            · simp only [List.map_cons, List.sum_cons, Ex.sel]
              omega
            · simp only [List.map_cons, List.sum_cons, Ex.ops]
              omega
          · walk_at "l"
            exact hN _ rfl
        · walk_at "l"
          exact hN _ rfl
      · walk_at "l"
        exact hN _ rfl
  · rintro σ H1 ⟨es, xs, sel, ops, x7, x8, x9, x10, x11, x12, x13, x14, rfl, I, hsel, hops, hs6, ho8, hfew⟩
    walk_at "l"
    refine ⟨WExpr K H p n z R, ⟨_, es, xs, sel, ops, _, _, _, _, _, _, _, _, rfl, rfl, I, hsel, hops, hs6, ho8, hfew⟩, ?_⟩
    clear hfew ho8 hs6 hops hsel I x7 x8 x9 x10 x11 x12 x13 x14 es xs sel ops H1
    rintro μ σ H1 ⟨es, xs, sel, ops, x7, x8, x9, x10, x11, x12, x13, x14, rfl, rfl, I, hsel, hops, hs6, ho8, hfew⟩
    have hxl := I.rows.len
    walk_at "l"
    refine i_rLen (.inl (SqL.of I.at_)) ?_
    walk_at "l"
    refine i_C (fun hc2 => ?_) (fun hc2 => ?_)
    · have hc2 := of_decide_eq_true hc2
      walk_at "l"
      refine i_C (fun hc3 => ?_) (fun hc3 => ?_)
      · have hc3 := of_decide_eq_true hc3
        obtain ⟨e2, e1, es', rfl⟩ := two_of (es := es) (by omega)
        refine ⟨WExpr K H p n z R (es'.length + 1), fun σ' H' h => ⟨_, by simp only [List.length_cons]; omega, h⟩, ?_⟩
        simp only [List.map_cons, List.sum_cons] at hsel hops
        have ok2 := I.ok e2 List.mem_cons_self
        have ok1 := I.ok e1 (List.mem_cons_of_mem _ List.mem_cons_self)
        have dp1 := depth_le e1
        have dp2 := depth_le e2
        simp only [List.length_cons] at hfew
        walk_at "l"
        refine i_tyL (SqL.of I.at_) ?_
        walk_at "l"
        refine i_popR I fun v2 xs3 H3 t3 k3 hv2 I3 => ?_
        walk_at "l"
        refine i_tyL (SqL.of I3.at_) ?_
        walk_at "l"
        refine i_popR I3 fun v1 xs4 H4 t4 k4 hv1 I4 => ?_
        walk_at "l"
        refine i_tyL (SqL.of I4.at_) ?_
        walk_at "l"
        refine i_rLen (.inl (SqL.of (I4.same _ _ hp))) ?_
        walk_at "l"
        refine ⟨_, e1, e2, v1, v2, rfl, hv1, hv2.mono t4, by omega, by omega, ok1.2, ok2.2, fun H5 o s5 hkd => ?_⟩
        walk_at "l"
        refine i_TupQ (K := K) (by simp) fun t6 H6 n6 s6 e6 => ?_
        walk_at "l"
        refine i_pushR (e := .bin o e1 e2) (I4.grow (s5.trans s6)) ⟨t6, v1, v2, rfl, e6, hv1.mono (Same.tup (s5.trans s6)), hv2.mono (t4.trans (Same.tup (s5.trans s6)))⟩ ⟨⟨ok1.1, ok2.1⟩, hkd⟩ (by omega) fun xs7 H7 t7 k7 I7 => ?_
        walk_at "l"
        refine ⟨.bin o e1 e2 :: es', xs7, sel, ops + 1, _, _, _, _, _, _, _, _, rfl, rfl, I7, ?_, ?_, hs6, by omega, by simp only [List.length_cons]; omega⟩
        · simp only [List.map_cons, List.sum_cons, Ex.sel]
          omega
        · simp only [List.map_cons, List.sum_cons, Ex.ops]
          omega
      · walk_at "l"
        refine i_tru (SqL.of I.at_) ?_
        cases es with
        | nil =>
          have ex : xs = [] := I.rows
          subst ex
          walk_at "l"
          refine i_TupQ (K := K) (by simp) fun t2 H2 n2 s2 e2 => ?_
          exact q H2 _ (.num 7) (I.same.trans s2) ⟨t2, rfl, e2⟩ ⟨by show (7 : Int).natAbs < _; decide, by simp [Ex.kd], Nat.zero_le _, Nat.zero_le _⟩
        | cons e es =>
          obtain ⟨r, v, rfl, hv, hr2⟩ := I.rows
          simp only [List.map_cons, List.sum_cons] at hsel hops
          have ok1 := I.ok e List.mem_cons_self
          refine i_F (by simp) ?_
          walk_at "l"
          refine i_rIxL (SqL.of I.at_) (atI_last r v) ?_
          exact q H1 v e I.same hv ⟨ok1.1, ok1.2, by omega, by omega⟩
    · walk_at "l"
      refine i_tru (SqL.of I.at_) ?_
      cases es with
      | nil =>
        have ex : xs = [] := I.rows
        subst ex
        walk_at "l"
        refine i_TupQ (K := K) (by simp) fun t2 H2 n2 s2 e2 => ?_
        exact q H2 _ (.num 7) (I.same.trans s2) ⟨t2, rfl, e2⟩ ⟨by show (7 : Int).natAbs < _; decide, by simp [Ex.kd], Nat.zero_le _, Nat.zero_le _⟩
      | cons e es =>
        obtain ⟨r, v, rfl, hv, hr2⟩ := I.rows
        simp only [List.map_cons, List.sum_cons] at hsel hops
        have ok1 := I.ok e List.mem_cons_self
        refine i_F (by simp) ?_
        walk_at "l"
        refine i_rIxL (SqL.of I.at_) (atI_last r v) ?_
        exact q H1 v e I.same hv ⟨ok1.1, ok1.2, by omega, by omega⟩
end
end Wf


set_option Elab.async false
set_option linter.all false
set_option maxRecDepth 100000
set_option maxHeartbeats 4000000
namespace Wf
open PySem PySem.Spec PyProof.Rows L2
open C8 (pe_gc)
local macro_rules | `(tactic| walk_at "w1") => `(tactic| first
  | with_reducible refine i_seq ?_
  | with_reducible refine i_asg ?_
  | with_reducible refine i_gname ?_
  | ((with_reducible refine' i_var ?ivar ?imain); (case ivar => exact rfl))
  | with_reducible refine i_c ?_
  | with_reducible refine i_op ?_
  | with_reducible refine i_if ?_
  | with_reducible refine i_test ?_
  | with_reducible refine i_tB ?_
  | with_reducible refine i_bl ?_
  | with_reducible refine i_ret ?_
  | with_reducible refine i_retN ?_
  | with_reducible refine i_drop ?_
  | with_reducible refine i_next ?_
  | with_reducible refine i_cons ?_
  | with_reducible refine i_nil ?_
  | with_reducible refine i_cb ?_
  | with_reducible refine i_tup ?_
  | with_reducible refine i_lst ?_
  | with_reducible refine i_fld ?_
  | with_reducible refine i_sfld ?_
  | with_reducible refine i_call ?_
  | with_reducible refine i_meth ?_
  | with_reducible refine i_and ?_
  | with_reducible refine i_or ?_
  | with_reducible refine i_not ?_
  | with_reducible refine i_andV ?_
  | with_reducible refine i_orV ?_
  | with_reducible refine i_notV ?_
  | with_reducible refine i_ifV ?_
  | with_reducible refine i_un ?_
  | with_reducible refine i_neg ?_
  | with_reducible refine i_gcons ?_
  | with_reducible refine i_sl ?_
  | with_reducible refine i_part ?_
  | with_reducible refine i_nopart ?_
  | with_reducible refine i_int ?_
  | with_reducible refine i_inS ?_
  | with_reducible refine i_notInS ?_
  | with_reducible refine i_tyS ?_
  | with_reducible refine i_forL ?_
  | with_reducible refine i_forT ?_
  | with_reducible refine i_forR1 ?_
  | with_reducible refine i_bm ?_
  | with_reducible refine i_bm0 ?_
  | with_reducible refine i_gnil ?_
  | with_reducible refine i_rI0 ?_
  | with_reducible refine i_rIsN ?_
  | with_reducible refine i_rNotN ?_
  | with_reducible refine i_rInt ?_
  | ((with_reducible refine i_rEq ?isc ?imain); (case isc => exact rfl))
  | ((with_reducible refine i_rNe ?isc ?imain); (case isc => exact rfl))
  | with_reducible refine i_T rfl ?_
  | with_reducible refine i_F rfl ?_
  | ((refine' i_T ?icnd ?imain); (case icnd => decide +kernel))
  | ((refine' i_F ?icnd ?imain); (case icnd => decide +kernel))
  | fail)
local macro_rules | `(tactic| walk_at "w") => `(tactic| (repeat' walk_at "w1"))
local macro_rules | `(tactic| walk_at "w0") => `(tactic| (simp only [cxOf, L2.start, List.map_cons, List.map_nil, List.length_cons, List.length_nil, Nat.reduceAdd, Nat.reduceSub, Nat.zero_add, List.replicate_zero, List.replicate_succ, List.cons_append, List.nil_append]))
local macro_rules | `(tactic| walk_at "tk") => `(tactic| (simp only [Tk.sign, Tk.val]))
local macro_rules | `(tactic| walk_at "c") => `(tactic| (dsimp only [List.set_cons_zero, List.set_cons_succ, List.cons_append, List.nil_append]))

local macro_rules | `(tactic| walk_at "len") => `(tactic| (refine le_line ?_; (try simp only [str_app, lit1, lit2, lit3, lit4, lit5, lit6, lit7, lit8, lit9, lit10, lit11, lit12, lit13, lit14, lit15, lit16, lit17, lit18]); omega))
local macro_rules | `(tactic| walk_at "s1") => `(tactic| first
  | walk_at "w1"
  | (refine i_rAddS (by walk_at "len") ?_)
  | fail)
local macro_rules | `(tactic| walk_at "s") => `(tactic| (repeat' walk_at "s1"))
local macro_rules | `(tactic| walk_at "l1") => `(tactic| first
  | with_reducible refine i_lst2 ?_
  | with_reducible refine i_tup2 ?_
  | with_reducible refine i_mod (by decide) ?_
  | with_reducible refine i_div ⟨by decide, by decide⟩ ?_
  | with_reducible refine i_mulR ⟨by decide, by decide⟩ ?_
  | with_reducible refine i_mulL ⟨by decide, by decide⟩ ?_
  | with_reducible refine i_pow ⟨by decide, by decide, by decide⟩ ?_
  | with_reducible refine i_lcT ?_
  | with_reducible refine i_lcL ?_
  | with_reducible refine i_lcR ?_
  | with_reducible refine i_M1 ?_
  | walk_at "w1"
  | (refine i_rAddS (by walk_at "len") ?_)
  | fail)
local macro_rules | `(tactic| walk_at "l") => `(tactic| (repeat' walk_at "l1"))

section
variable {P : Program} {w : World} {K : PySem.W.Frag} {mg : Str → Option Value} {base : Heap} {H0 Hb H H' : Hp}
/-! _law_of_script -/
theorem cut_ints (ks : List Int) (lo hi : Option Int) : ∃ cs : List Int, cutV (ks.map V.int) lo hi = cs.map V.int ∧ cs.length ≤ ks.length := by
  refine ⟨(ks.drop (HT.sIx (ks.map V.int).length 0 lo)).take (HT.sIx (ks.map V.int).length (ks.map V.int).length hi - HT.sIx (ks.map V.int).length 0 lo), ?_, ?_⟩
  · unfold cutV
    rw [← List.map_drop, ← List.map_take]
  · rw [List.length_take, List.length_drop]
    omega
def spScript (K : PySem.W.Frag) : Sp := fun vs H Q _ => ∃ (a n z : Addr) (ks : List Int) (b e : Int) (ns zs : List Str), vs = [.ref a, .int b, .int e, .ref n, .ref z, .bl true] ∧ SqL K H a (ks.map V.int) ∧ ks.length ≤ 100 ∧ Stock H n ns LabelOk ∧ Stock H z zs WorthOk ∧
  ∀ H' v x, Same H H' → ER K H' x v → Good x → Q v H'
theorem sc__law_of_script : FnScope (["_law_script", "_law_begin", "_law_end", "_law_names_here", "_law_worths_here", "_law_sound", "_law_draws_here", "_law_cell_here"] : List Str) (["_law_script", "_law_begin", "_law_end", "_law_names_here", "_law_worths_here", "_law_sound"] : List Str) (defScope s__law_of_script) := ⟨rfl, rfl, rfl, by decide +kernel, rfl, by decide +kernel, by decide +kernel⟩
theorem k_law_of_script (T : Txt w K mg) : Cal P w K mg base 13 "_law_of_script" (spScript K) := by
  have G__law_draws := k_law_draws (P := P) (base := base) T
  have G__law_expression := k_law_expression (P := P) (base := base) T
  obtain ⟨fd, F⟩ := T.d__law_of_script
  refine ⟨_, fd, ["_law_script", "_law_begin", "_law_end", "_law_names_here", "_law_worths_here", "_law_sound"], fn_ok F sc__law_of_script (fun vs H Q E h => ?_) (fun cdv A outer s H vs Q E hr h => ?_), T.g__law_of_script, F.kp, F.bindsN (fun _ _ _ _ _ _ us hl => match us, hl with | [_, _, _, _, _, _], _ => rfl)⟩
  · obtain ⟨_, _, _, _, _, _, _, _, rfl, _⟩ := h
    rfl
  obtain ⟨a, n, z, ks, b, e, ns, zs, rfl, ha, hkl, hn, hz, q⟩ := h
  obtain ⟨cs, hcs, hcl⟩ := cut_ints ks (some b) (some e)
  refine ⟨_, (pss_cons (ps_set (i := 6) sc__law_of_script.nd rfl (by first | exact Or.inl rfl | exact Or.inr rfl) (pe_lst pa_nil))
    (pss_cons (ps_for PassesOwn.never rfl (pi_list (pe_slice sl_list (pv 0) (po_some (pv 1)) (po_some (pv 2)))) (pg_name (i := 7) sc__law_of_script.nd rfl (by first | exact Or.inl rfl | exact Or.inr rfl)) (pss_one (ps_set (i := 6) sc__law_of_script.nd rfl (by first | exact Or.inl rfl | exact Or.inr rfl) (pe_op op_cat (pv 6) (pe_c G__law_draws hr (by omega) rfl (pa_cons (pv 7) (pa_cons pe_int pa_nil)))))))
    (pss_one (ps_ret (pe_c G__law_expression hr (by omega) rfl (pa_cons (pv 6) (pa_cons (pv 3) (pa_cons (pv 4) (pa_cons (pv 5) pa_nil))))))))), ?_⟩
  walk_at "w0"
  walk_at "l"
  refine i_LstQ (by simp) fun l0 G0 n0 s0 e0 => ?_
  walk_at "l"
  refine i_slLN (s0.seq ha) fun l1 G1 n1 s1 e1 => ?_
  rw [hcs] at e1
  refine i_listW (SqL.of e1) (i_list (xs := cs.map V.int) (fun i σ H1 => ∃ (l : Addr) (ds : List Int) (x7 : Option V), σ = [some (.ref a), some (.int b), some (.int e), some (.ref n), some (.ref z), some (.bl true), some (.ref l), x7] ∧ Same G1 H1 ∧ H1 l = some (.lst (ds.map V.int)) ∧ DrawOk ds ∧ ds.length ≤ 5 * i)
    ⟨l0, [], _, rfl, Same.refl _, s1 _ _ e0, (fun d hd => by cases hd), Nat.zero_le _⟩ (fun i σ H1 _ ⟨_, _, _, _, s2, _⟩ => SqL.of (s2 _ _ e1)) ?_ ?_)
  · rintro i x σ H1 hx ⟨l, ds, x7, rfl, s2, el, hd, hdl⟩
    rw [List.getElem?_map] at hx
    obtain ⟨c, hc, rfl⟩ := Option.map_eq_some_iff.mp hx
    have hi := (List.getElem?_eq_some_iff.mp hc).1
    walk_at "l"
    refine ⟨c, 5, rfl, by decide, fun H2 l2 d2 s3 e2 hl2 hd2 => ?_⟩
    walk_at "l"
    refine i_rCatN (s3 _ _ el) e2 (by rw [List.length_map, List.length_map]; omega) fun l3 H3 n3 s4 e3 => ?_
    walk_at "l"
    refine ⟨l3, ds ++ d2, _, rfl, s2.trans (s3.trans s4), by rw [List.map_append]; exact e3, fun d hd' => ?_, by rw [List.length_append]; omega⟩
    rcases List.mem_append.mp hd' with k | k
    · exact hd d k
    · exact hd2 d k
  · rintro σ H1 ⟨l, ds, x7, rfl, s2, el, hd, hdl⟩
    have S := s0.trans (s1.trans s2)
    rw [List.length_map] at hdl
    walk_at "l"
    exact ⟨l, n, z, ds, ns, zs, rfl, el, hd, by omega, hn.same S, hz.same S, fun H2 v x s3 hv hg => q H2 v x (S.trans s3) hv hg⟩
/-! expressions as data -/
def Mat.dat (m : Mat) : PyData := .tuple [.str m.name, .tuple (m.values.map PyData.str), .bool m.inside]
def Ex.dat : Ex → PyData
  | .num n => .tuple [.str "number", .int n]
  | .latest m ms => .tuple [.str "latest", .str m, .tuple (ms.map Mat.dat)]
  | .over o m ms s => .tuple [.str "over", .str o.str, .str m, .tuple (ms.map Mat.dat), .int s]
  | .bin o l r => .tuple [.str "binary", .str o.str, l.dat, r.dat]
  | .agg o ns i => .tuple [.str "aggregate", .str o.str, .tuple (ns.map PyData.str), i.dat]
theorem dp_strs : ∀ ss : List Str, DpAll K H (ss.map V.str) (ss.map PyData.str)
  | [] => .nil
  | s :: ss => .cons (.str s) (dp_strs ss)
theorem MatsR.dp : ∀ {ms : List Mat} {vs : List V}, MatsR K H ms vs → DpAll K H vs (ms.map Mat.dat)
  | [], _, h => by rw [show _ = [] from h]; exact .nil
  | m :: ms, _, ⟨a, b, r, h1, h2, h3, h4⟩ => by
    rw [h1]
    exact .cons (.tup h2 (.cons (.str _) (.cons (.tup h3 (dp_strs _)) (.cons (.bl _) .nil)))) (MatsR.dp h4)
theorem ER.dp : ∀ {e : Ex} {v : V}, ER K H e v → Dp K H v e.dat
  | .num n, _, ⟨a, h, h1⟩ => by rw [h]; exact .tup h1 (.cons (.str _) (.cons (.int _) .nil))
  | .latest m ms, _, ⟨a, b, xs, h, h1, h2, h3⟩ => by rw [h]; exact .tup h1 (.cons (.str _) (.cons (.str _) (.cons (.tup h2 h3.dp) .nil)))
  | .over o m ms s, _, ⟨a, b, xs, h, h1, h2, h3⟩ => by rw [h]; exact .tup h1 (.cons (.str _) (.cons (.str _) (.cons (.str _) (.cons (.tup h2 h3.dp) (.cons (.int _) .nil)))))
  | .bin o l r, _, ⟨a, x, y, h, h1, h2, h3⟩ => by rw [h]; exact .tup h1 (.cons (.str _) (.cons (.str _) (.cons (ER.dp h2) (.cons (ER.dp h3) .nil))))
  | .agg o ns i, _, ⟨a, b, x, h, h1, h2, h3⟩ => by rw [h]; exact .tup h1 (.cons (.str _) (.cons (.str _) (.cons (.tup h2 (dp_strs _)) (.cons (ER.dp h3) .nil))))
theorem wordCs_small : ∀ c ∈ wordCs, c < 0x110000 := by decide +kernel
theorem letters_word : ∀ c ∈ letters, c ∈ wordCs := by decide +kernel
theorem strOk_of {s : Str} (h : ∀ y ∈ s.cps.toList, y ∈ wordCs) : PyData.strOk s = true := by
  unfold PyData.strOk
  rw [Array.all_eq_true_iff_forall_mem]
  intro x hx
  exact decide_eq_true (wordCs_small x (h x (Array.mem_toList_iff.mpr hx)))
theorem strOk_name {s : Str} (h : NameOk s) : PyData.strOk s = true := strOk_of fun y hy => by
  obtain ⟨c, x, e, hc, hx, _⟩ := h
  rw [e] at hy
  rcases List.mem_cons.mp hy with k | k
  · rw [k]; exact letters_word c hc
  · exact hx y k
theorem strOk_ow (o : Ow) : PyData.strOk o.str = true := by cases o <;> decide +kernel
theorem strOk_aw (o : Aw) : PyData.strOk o.str = true := by cases o <;> decide +kernel
theorem strOk_op (o : Op) : PyData.strOk o.str = true := by cases o <;> decide +kernel
theorem strOk_1 : PyData.strOk ("number" : Str) = true := by decide +kernel
theorem strOk_2 : PyData.strOk ("latest" : Str) = true := by decide +kernel
theorem strOk_3 : PyData.strOk ("over" : Str) = true := by decide +kernel
theorem strOk_4 : PyData.strOk ("binary" : Str) = true := by decide +kernel
theorem strOk_5 : PyData.strOk ("aggregate" : Str) = true := by decide +kernel
theorem lay_strs : ∀ ss : List Str, (∀ s ∈ ss, PyData.strOk s = true) → PyData.canLayAll0 (ss.map PyData.str) = true ∧ PyData.depthAll (ss.map PyData.str) = 0
  | [], _ => ⟨rfl, rfl⟩
  | s :: ss, h => by
    obtain ⟨h1, h2⟩ := lay_strs ss fun x hx => h x (List.mem_cons_of_mem _ hx)
    have h0 := h s List.mem_cons_self
    exact ⟨by simp [PyData.canLayAll0, PyData.canLay0, h1, h0], by simp [PyData.depthAll, PyData.depth, h2]⟩
theorem lay_mats : ∀ ms : List Mat, (∀ m ∈ ms, MatOk m) → PyData.canLayAll0 (ms.map Mat.dat) = true ∧ PyData.depthAll (ms.map Mat.dat) ≤ 2
  | [], _ => ⟨rfl, by simp [PyData.depthAll]⟩
  | m :: ms, h => by
    obtain ⟨h1, h2⟩ := lay_mats ms fun x hx => h x (List.mem_cons_of_mem _ hx)
    have h0 := h m List.mem_cons_self
    obtain ⟨h3, h4⟩ := lay_strs m.values fun x hx => strOk_of (h0.vals x hx).1
    have h5 := strOk_name h0.name.1
    refine ⟨by simp [PyData.canLayAll0, PyData.canLay0, Mat.dat, h1, h3, h5], ?_⟩
    simp only [List.map_cons, PyData.depthAll, PyData.depth, Mat.dat, h4]
    omega
theorem lay_ex : ∀ e : Ex, e.Ok → e.dat.canLay0 = true ∧ e.dat.depth ≤ e.depth + 4
  | .num n, _ => ⟨by simp [Ex.dat, PyData.canLayAll0, PyData.canLay0, strOk_1], by simp [Ex.dat, PyData.depth, PyData.depthAll]⟩
  | .latest m ms, ok => by
    obtain ⟨h1, h2⟩ := lay_mats ms ok.2.all
    refine ⟨by simp [Ex.dat, PyData.canLayAll0, PyData.canLay0, h1, strOk_2, strOk_name ok.1], ?_⟩
    simp only [PyData.depthAll, PyData.depth, Ex.dat]
    omega
  | .over o m ms s, ok => by
    obtain ⟨h1, h2⟩ := lay_mats ms ok.2.1.all
    refine ⟨by simp [Ex.dat, PyData.canLayAll0, PyData.canLay0, h1, strOk_3, strOk_ow, strOk_name ok.1], ?_⟩
    simp only [PyData.depthAll, PyData.depth, Ex.dat]
    omega
  | .bin o l r, ok => by
    obtain ⟨h1, h2⟩ := lay_ex l ok.1
    obtain ⟨h3, h4⟩ := lay_ex r ok.2
    refine ⟨by simp [Ex.dat, PyData.canLayAll0, PyData.canLay0, h1, h3, strOk_4, strOk_op], ?_⟩
    simp only [PyData.depthAll, PyData.depth, Ex.dat, Ex.depth]
    omega
  | .agg o ns i, ok => by
    obtain ⟨h1, h2⟩ := lay_ex i ok.2.2
    obtain ⟨h3, h4⟩ := lay_strs ns fun x hx => strOk_name (ok.1 x hx)
    refine ⟨by simp [Ex.dat, PyData.canLayAll0, PyData.canLay0, h1, h3, strOk_5, strOk_aw], ?_⟩
    simp only [PyData.depthAll, PyData.depth, Ex.dat, Ex.depth, h4]
    omega
theorem shaped_ex {e : Ex} (ok : e.Ok) (h : e.depth ≤ 20) : SeqAt.shaped e.dat = true := by
  obtain ⟨h1, h2⟩ := lay_ex e ok
  unfold SeqAt.shaped
  rw [h1, Bool.true_and]
  exact decide_eq_true (by omega)
theorem eqv_ex {e : Ex} (ok : e.Ok) : PyData.eqv e.dat e.dat = true := SeqAt.eqv_refl _ (lay_ex e ok).1
end
end Wf


set_option Elab.async false
set_option linter.all false
set_option maxRecDepth 100000
set_option maxHeartbeats 4000000
namespace Wf
open PySem PySem.Spec PyProof.Rows L2
open C8 (pe_gc)
local macro_rules | `(tactic| walk_at "w1") => `(tactic| first
  | with_reducible refine i_seq ?_
  | with_reducible refine i_asg ?_
  | with_reducible refine i_gname ?_
  | ((with_reducible refine' i_var ?ivar ?imain); (case ivar => exact rfl))
  | with_reducible refine i_c ?_
  | with_reducible refine i_op ?_
  | with_reducible refine i_if ?_
  | with_reducible refine i_test ?_
  | with_reducible refine i_tB ?_
  | with_reducible refine i_bl ?_
  | with_reducible refine i_ret ?_
  | with_reducible refine i_retN ?_
  | with_reducible refine i_drop ?_
  | with_reducible refine i_next ?_
  | with_reducible refine i_cons ?_
  | with_reducible refine i_nil ?_
  | with_reducible refine i_cb ?_
  | with_reducible refine i_tup ?_
  | with_reducible refine i_lst ?_
  | with_reducible refine i_fld ?_
  | with_reducible refine i_sfld ?_
  | with_reducible refine i_call ?_
  | with_reducible refine i_meth ?_
  | with_reducible refine i_and ?_
  | with_reducible refine i_or ?_
  | with_reducible refine i_not ?_
  | with_reducible refine i_andV ?_
  | with_reducible refine i_orV ?_
  | with_reducible refine i_notV ?_
  | with_reducible refine i_ifV ?_
  | with_reducible refine i_un ?_
  | with_reducible refine i_neg ?_
  | with_reducible refine i_gcons ?_
  | with_reducible refine i_sl ?_
  | with_reducible refine i_part ?_
  | with_reducible refine i_nopart ?_
  | with_reducible refine i_int ?_
  | with_reducible refine i_inS ?_
  | with_reducible refine i_notInS ?_
  | with_reducible refine i_tyS ?_
  | with_reducible refine i_forL ?_
  | with_reducible refine i_forT ?_
  | with_reducible refine i_forR1 ?_
  | with_reducible refine i_bm ?_
  | with_reducible refine i_bm0 ?_
  | with_reducible refine i_gnil ?_
  | with_reducible refine i_rI0 ?_
  | with_reducible refine i_rIsN ?_
  | with_reducible refine i_rNotN ?_
  | with_reducible refine i_rInt ?_
  | ((with_reducible refine i_rEq ?isc ?imain); (case isc => exact rfl))
  | ((with_reducible refine i_rNe ?isc ?imain); (case isc => exact rfl))
  | with_reducible refine i_T rfl ?_
  | with_reducible refine i_F rfl ?_
  | ((refine' i_T ?icnd ?imain); (case icnd => decide +kernel))
  | ((refine' i_F ?icnd ?imain); (case icnd => decide +kernel))
  | fail)
local macro_rules | `(tactic| walk_at "w") => `(tactic| (repeat' walk_at "w1"))
local macro_rules | `(tactic| walk_at "w0") => `(tactic| (simp only [cxOf, L2.start, List.map_cons, List.map_nil, List.length_cons, List.length_nil, Nat.reduceAdd, Nat.reduceSub, Nat.zero_add, List.replicate_zero, List.replicate_succ, List.cons_append, List.nil_append]))
local macro_rules | `(tactic| walk_at "tk") => `(tactic| (simp only [Tk.sign, Tk.val]))
local macro_rules | `(tactic| walk_at "c") => `(tactic| (dsimp only [List.set_cons_zero, List.set_cons_succ, List.cons_append, List.nil_append]))

local macro_rules | `(tactic| walk_at "len") => `(tactic| (refine le_line ?_; (try simp only [str_app, lit1, lit2, lit3, lit4, lit5, lit6, lit7, lit8, lit9, lit10, lit11, lit12, lit13, lit14, lit15, lit16, lit17, lit18]); omega))
local macro_rules | `(tactic| walk_at "s1") => `(tactic| first
  | walk_at "w1"
  | (refine i_rAddS (by walk_at "len") ?_)
  | fail)
local macro_rules | `(tactic| walk_at "s") => `(tactic| (repeat' walk_at "s1"))
local macro_rules | `(tactic| walk_at "l1") => `(tactic| first
  | with_reducible refine i_lst2 ?_
  | with_reducible refine i_tup2 ?_
  | with_reducible refine i_mod (by decide) ?_
  | with_reducible refine i_div ⟨by decide, by decide⟩ ?_
  | with_reducible refine i_mulR ⟨by decide, by decide⟩ ?_
  | with_reducible refine i_mulL ⟨by decide, by decide⟩ ?_
  | with_reducible refine i_pow ⟨by decide, by decide, by decide⟩ ?_
  | with_reducible refine i_lcT ?_
  | with_reducible refine i_lcL ?_
  | with_reducible refine i_lcR ?_
  | with_reducible refine i_M1 ?_
  | walk_at "w1"
  | (refine i_rAddS (by walk_at "len") ?_)
  | fail)
local macro_rules | `(tactic| walk_at "l") => `(tactic| (repeat' walk_at "l1"))

/-- what the reading of the normal form comes to -/
def Parsed (x : Ex) : Prop := ∃ (ts : List Tk) (md : Md) (co co1 : Core) (e1 : Ex) (n : Nat), Lex (tl x.show) ts ∧ Runs .operand co0 ts md co ∧ ((md = .done ∧ co1 = co) ∨ ∃ wd, md = .named wd ∧ co1 = co.named wd) ∧
  co1.made = some e1 ∧ AllInf co1.stack ∧ comb 0 co1.stack e1 co1.ops = some ([], x, n) ∧ co1.sel ≤ 6 ∧ n ≤ 8 ∧ depthOk 0 ts
section
variable {P : Program} {w : World} {K : PySem.W.Frag} {mg : Str → Option Value} {base : Heap} {H0 Hb H H' : Hp}
def words5 : List Str := ["sum", "increase", "or", "by", "in"]
theorem words_ok : ∀ s ∈ words5, LabelOk s := by
  have h : ∀ s ∈ words5, (∃ c x, s.cps.toList = c :: x ∧ c ∈ letters ∧ (∀ y ∈ x, y ∈ wordCs) ∧ x.length ≤ 19) ∧ s ≠ "metric" := by
    intro s hs
    simp only [words5, List.mem_cons, List.not_mem_nil, or_false] at hs
    rcases hs with rfl | rfl | rfl | rfl | rfl
    · exact ⟨⟨115, [117, 109], by decide +kernel, by decide, by decide, by decide⟩, by decide +kernel⟩
    · exact ⟨⟨105, [110, 99, 114, 101, 97, 115, 101], by decide +kernel, by decide, by decide, by decide⟩, by decide +kernel⟩
    · exact ⟨⟨111, [114], by decide +kernel, by decide, by decide, by decide⟩, by decide +kernel⟩
    · exact ⟨⟨98, [121], by decide +kernel, by decide, by decide, by decide⟩, by decide +kernel⟩
    · exact ⟨⟨105, [110], by decide +kernel, by decide, by decide, by decide⟩, by decide +kernel⟩
  exact h
def spLaw (K : PySem.W.Frag) : Sp := fun vs H Q _ => ∃ (a : Addr) (ks : List Int), vs = [.ref a] ∧ SqL K H a (ks.map V.int) ∧ ks.length ≤ 63 ∧ ∀ H', Q (.bl true) H'
theorem sc_law : FnScope (["_law_script", "_law_names_here", "_law_worths_here", "_law_expression_here", "_law_text", "_law_marks"] : List Str) (["_law_script"] : List Str) (defScope s_law) := ⟨rfl, rfl, rfl, by decide +kernel, rfl, by decide +kernel, by decide +kernel⟩
theorem f_law (hpar : ∀ x : Ex, Good x → x.show.length ≤ 300 → Parsed x) (T : Txt w K mg) {f : Addr} {fd : FuncData} (F : FunD K "law" "law" (defArgs s_law) (defBody s_law) (defScope s_law) [] [] f fd) : FnOk P w K mg base CX0 20 f fd ["_law_script"] (spLaw K) := by
  have G__law_cell := k_law_cell (P := P) (base := base) T
  have G__law_names := k_law_names (P := P) (base := base) T
  have G__law_worths := k_law_worths (P := P) (base := base) T
  have G__law_of_script := k_law_of_script (P := P) (base := base) T
  have G__law_shown := k_law_shown (P := P) (base := base) T 9
  have G_show := k_show (P := P) (base := base) T 9
  have G_parse := k_parse (P := P) (base := base) T
  refine fn_ok F sc_law (fun vs H Q E h => ?_) (fun cdv A outer s H vs Q E hr h => ?_)
  · obtain ⟨_, _, rfl, _⟩ := h
    rfl
  obtain ⟨a, ks, rfl, ha, hkl, q⟩ := h
  refine ⟨_, (pss_cons (ps_set (i := 1) sc_law.nd rfl (by first | exact Or.inl rfl | exact Or.inr rfl) (pe_op op_cat (pe_c G__law_names hr (by omega) rfl (pa_cons (pe_c G__law_cell hr (by omega) rfl (pa_cons (pv 0) (pa_cons pe_int pa_nil))) (pa_cons pe_int pa_nil))) (pe_lst (pa_cons pe_str (pa_cons pe_str (pa_cons pe_str (pa_cons pe_str (pa_cons pe_str pa_nil))))))))
    (pss_cons (ps_set (i := 2) sc_law.nd rfl (by first | exact Or.inl rfl | exact Or.inr rfl) (pe_c G__law_worths hr (by omega) rfl (pa_cons (pe_c G__law_cell hr (by omega) rfl (pa_cons (pv 0) (pa_cons pe_int pa_nil))) (pa_cons pe_int pa_nil))))
    (pss_cons (ps_set (i := 3) sc_law.nd rfl (by first | exact Or.inl rfl | exact Or.inr rfl) (pe_c G__law_of_script hr (by omega) rfl (pa_cons (pv 0) (pa_cons pe_int (pa_cons pe_int (pa_cons (pv 1) (pa_cons (pv 2) (pa_cons pe_bl pa_nil))))))))
    (pss_cons (ps_asg (pe_c G__law_shown hr (by omega) rfl (pa_cons (pv 3) pa_nil)) (pg_tup (by rfl) (pgs_cons (pg_name (i := 4) sc_law.nd rfl (by first | exact Or.inl rfl | exact Or.inr rfl)) (pgs_cons (pg_name (i := 5) sc_law.nd rfl (by first | exact Or.inl rfl | exact Or.inr rfl)) pgs_nil))))
    (pss_cons (ps_if (pt_cmpR op_ne (pe_c G_show hr (by omega) rfl (pa_cons (pv 3) pa_nil)) (pv 4) (nomark _)) (pss_one (ps_ret pe_bl)) pss_nil)
    (pss_one (ps_ret (pe_or (pe_cmpR op_gt (pe_callB call_lenS rfl T.z_len PySem.boot_len (pa_cons (pv 4) pa_nil)) pe_int (nomark _)) (pe_one (pe_cmpR (op_eqD hr.units) (pe_c G_parse hr (by omega) rfl (pa_cons (pv 4) pa_nil)) (pv 3) (nomark _))))))))))), ?_⟩
  walk_at "w0"
  walk_at "l"
  refine ⟨a, ks, 0, rfl, ha, fun c0 => ?_⟩
  walk_at "l"
  refine ⟨c0, 4, rfl, by decide, fun H1 l1 n1 s1 e1 hl1 hn1 => ?_⟩
  walk_at "l"
  refine i_LstQ (by simp) fun l2 H2 n2 s2 e2 => ?_
  walk_at "l"
  refine i_rCatN (s2 _ _ e1) e2 (by rw [List.length_map, hl1]; simp) fun l3 H3 n3 s3 e3 => ?_
  have S3 := s1.trans (s2.trans s3)
  walk_at "l"
  refine ⟨a, ks, 1, rfl, S3.seq ha, fun c1 => ?_⟩
  walk_at "l"
  refine ⟨c1, 4, rfl, by decide, fun H4 l4 n4 s4 e4 hl4 hn4 => ?_⟩
  have S4 := S3.trans s4
  have K1 : Stock H4 l3 (n1 ++ words5) LabelOk := ⟨by rw [List.map_append]; exact s4 _ _ e3, (fun s hs => by
    rcases List.mem_append.mp hs with k | k
    · exact small_label (hn1 s k)
    · exact words_ok s k), by simp [words5], by rw [List.length_append, hl1]; decide⟩
  have K2 : Stock H4 l4 n4 WorthOk := ⟨e4, hn4, (fun e => by rw [e] at hl4; cases hl4), by omega⟩
  walk_at "l"
  refine ⟨a, l3, l4, ks, 2, 22, _, _, rfl, S4.seq ha, by omega, K1, K2, fun H5 v x s5 hv hg => ?_⟩
  have hdep : x.depth < 9 := Nat.lt_of_le_of_lt (depth_le x) (by have := hg.ops; omega)
  have hsize : x.size ≤ 40 := by have := size_le x; have := hg.ops; omega
  have hlen := show_len hg.ok
  walk_at "l"
  refine ⟨x, v, rfl, hv, hg.ok, hsize, hdep, fun H6 u s6 hu => ?_⟩
  obtain ⟨t, l, ys, rfl, ht, hl, _, _⟩ := hu
  walk_at "l"
  refine i_gtup ht rfl ?_
  walk_at "l"
  refine ⟨x, v, rfl, hv.mono (Same.tup s6), hg.ok, hsize, hdep, fun H7 s7 => ?_⟩
  walk_at "l"
  refine i_F (by rw [decide_eq_true (p := V.str x.show = V.str x.show) rfl]; rfl) ?_
  walk_at "l"
  refine i_rLenS (le_line (by omega)) ?_
  walk_at "l"
  refine i_C (fun hc => ?_) (fun hc => ?_)
  · exact q _
  · have hc := of_decide_eq_false hc
    have h300 : x.show.length ≤ 300 := by omega
    obtain ⟨ts, md, co, co1, x1, m, p1, p2, p3, p4, p5, p6, p7, p8, p9⟩ := hpar x hg h300
    walk_at "l"
    refine ⟨x.show, ts, md, co, co1, x1, x, m, rfl, h300, p1, p2, p3, p4, p5, p6, p7, p8, p9, fun H8 u s8 hu => ?_⟩
    walk_at "l"
    have hsh := shaped_ex hg.ok (by omega)
    refine ⟨x.dat, x.dat, hu.dp, (hv.mono (Same.tup (s6.trans (s7.trans s8)))).dp, hsh, hsh, ?_⟩
    rw [eqv_ex hg.ok]
    exact q _
end
end Wf


set_option Elab.async false
set_option linter.all false
set_option maxRecDepth 100000
set_option maxHeartbeats 4000000
namespace Wf
open PySem PySem.Spec PyProof.Rows L2
/-! ### the tokens of an expression -/
def sepTk : List (List Tk) → List Tk
  | [] => []
  | [x] => x
  | x :: y :: r => x ++ .sym ("," : Str) :: sepTk (y :: r)
def inTk (b : Bool) : List Tk := if b then [.word ("in" : Str)] else [.word ("not" : Str), .word ("in" : Str)]
def matTk (m : Mat) : List Tk := match m.values with
  | [v] => [.word m.name, .sym (if m.inside then ("=" : Str) else ("!=" : Str)), .str v]
  | vs => .word m.name :: (inTk m.inside ++ .sym ("(" : Str) :: (sepTk (vs.map fun v => [Tk.str v]) ++ [.sym (")" : Str)]))
def selTk (m : Str) (ms : List Mat) : List Tk := match ms with
  | [] => [.word m]
  | _ => .word m :: .sym ("{" : Str) :: (sepTk (ms.map matTk) ++ [.sym ("}" : Str)])
def aggTk (w : Str) (ns : List Str) (i : List Tk) : List Tk := match ns with
  | [] => .word w :: .sym ("(" : Str) :: (i ++ [.sym (")" : Str)])
  | _ => .word w :: .word ("by" : Str) :: .sym ("(" : Str) :: (sepTk (ns.map fun n => [Tk.word n]) ++ .sym (")" : Str) :: .sym ("(" : Str) :: (i ++ [.sym (")" : Str)]))
def brkTk (b : Bool) (x : List Tk) : List Tk := if b then .sym ("(" : Str) :: (x ++ [.sym (")" : Str)]) else x
def numTk (n : Int) : List Tk := if 0 ≤ n then [.num n] else [.sym ("-" : Str), .num (-n)]
def toks : Ex → List Tk
  | .num n => numTk n
  | .latest m ms => selTk m ms
  | .over w m ms s => .word w.str :: .sym ("(" : Str) :: (selTk m ms ++ [.sym ("[" : Str), .num s, .sym ("]" : Str), .sym (")" : Str)])
  | .bin o l r => brkTk (decide (l.lev < o.lev)) (toks l) ++ o.tk :: brkTk (decide (r.lev < o.lev + 1)) (toks r)
  | .agg w ns i => aggTk w.str ns (toks i)
/-! ### reading signs -/
def WEnd (r : List Nat) : Prop := ∀ x, r.head? = some x → x ∉ wordCs
def NE (r : List Nat) : Prop := ∀ x, r.head? = some x → x ≠ 61
def Sep (r : List Nat) : Prop := ∀ x, r.head? = some x → x ∉ wordCs ∧ x ≠ 61
theorem Sep.w {r : List Nat} (h : Sep r) : WEnd r := fun x e => (h x e).1
theorem Sep.n {r : List Nat} (h : Sep r) : NE r := fun x e => (h x e).2
theorem w_cons {c : Nat} {r : List Nat} (h : c ∉ wordCs) : WEnd (c :: r) := fun x e => by cases e; exact h
theorem n_cons {c : Nat} {r : List Nat} (h : c ≠ 61) : NE (c :: r) := fun x e => by cases e; exact h
theorem s_cons {c : Nat} {r : List Nat} (h : c ∉ wordCs ∧ c ≠ 61) : Sep (c :: r) := fun x e => by cases e; exact h
theorem sep_nil : Sep [] := fun x e => by cases e
theorem tla (a b : Str) : tl (a ++ b) = tl a ++ tl b := TL.tl_append a b
theorem cs_tl (s : Str) : cs (tl s) = s := by
  show (⟨(s.cps.toList).toArray⟩ : Str) = s
  rw [Array.toArray_toList]
theorem L_word {s : Str} {r : List Nat} {rs : List Tk} (h : NameOk s) (hr : WEnd r) (l : Lex r rs) : Lex (tl s ++ r) (.word s :: rs) := by
  obtain ⟨c, x, e, hc, hx, hl⟩ := h
  have e2 : s = cs (c :: x) := by rw [← e]; exact (cs_tl s).symm
  have : Lex ((c :: x) ++ r) (.word (cs (c :: x)) :: rs) := .tok (.word hc hx hl hr) l
  rw [← e2] at this
  show Lex (s.cps.toList ++ r) _
  rw [e]
  exact this
theorem L_sym {c : Nat} {s : Str} {r : List Nat} {rs : List Tk} (hc : c ∈ symCs) (e : cs [c] = s) (hr : NE r) (l : Lex r rs) : Lex (c :: r) (.sym s :: rs) := by
  rw [← e]
  refine .tok (w := [c]) (.sym hc fun x hx hp => ?_) l
  have : ∀ p ∈ pairCs, ∀ a b, p = [a, b] → b = 61 := by
    intro p hp a b e
    simp only [pairCs, List.mem_cons, List.not_mem_nil, or_false] at hp
    rcases hp with rfl | rfl | rfl | rfl <;> · cases e; rfl
  exact hr x hx (this _ hp c x rfl)
theorem L_pair {p : List Nat} {s : Str} {r : List Nat} {rs : List Tk} (hp : p ∈ pairCs) (e : cs p = s) (l : Lex r rs) : Lex (p ++ r) (.sym s :: rs) := by
  rw [← e]
  exact .tok (.pair hp) l
theorem L_str {v : Str} {r : List Nat} {rs : List Tk} (h : WorthOk v) (l : Lex r rs) : Lex (34 :: (tl v ++ 34 :: r)) (.str v :: rs) := by
  have : Lex ((34 :: (tl v ++ [34])) ++ r) (.str (cs (tl v)) :: rs) := .tok (.str h.1 h.2) l
  rw [cs_tl] at this
  have e : (34 :: (tl v ++ [34])) ++ r = 34 :: (tl v ++ 34 :: r) := by simp
  rw [e] at this
  exact this
theorem digit_word : ∀ c ∈ digitCs, c ∈ wordCs := by decide +kernel
theorem L_num {n : Nat} {r : List Nat} {rs : List Tk} (h : n < 1000000000000000) (hr : WEnd r) (l : Lex r rs) : Lex (TL.numL n ++ r) (.num n :: rs) :=
  .tok (.num h fun x hx hd => hr x hx (digit_word x hd)) l
/-! ### the literals -/
theorem c_q : tl ("\"" : Str) = [34] := by decide +kernel
theorem c_eq : tl ("=\"" : Str) = [61, 34] := by decide +kernel
theorem c_ne : tl ("!=\"" : Str) = [33, 61, 34] := by decide +kernel
theorem c_in : tl (" in (" : Str) = [32, 105, 110, 32, 40] := by decide +kernel
theorem c_ni : tl (" not in (" : Str) = [32, 110, 111, 116, 32, 105, 110, 32, 40] := by decide +kernel
theorem c_cm : tl (", " : Str) = [44, 32] := by decide +kernel
theorem c_rp : tl (")" : Str) = [41] := by decide +kernel
theorem c_lp : tl ("(" : Str) = [40] := by decide +kernel
theorem c_lb : tl ("{" : Str) = [123] := by decide +kernel
theorem c_rb : tl ("}" : Str) = [125] := by decide +kernel
theorem c_ls : tl ("[" : Str) = [91] := by decide +kernel
theorem c_rs : tl ("])" : Str) = [93, 41] := by decide +kernel
theorem c_by : tl (" by (" : Str) = [32, 98, 121, 32, 40] := by decide +kernel
theorem c_bp : tl (") (" : Str) = [41, 32, 40] := by decide +kernel
theorem c_sp : tl (" " : Str) = [32] := by decide +kernel
theorem s_cm : cs [44] = ("," : Str) := by decide +kernel
theorem s_rp : cs [41] = (")" : Str) := by decide +kernel
theorem s_lp : cs [40] = ("(" : Str) := by decide +kernel
theorem s_lb : cs [123] = ("{" : Str) := by decide +kernel
theorem s_rb : cs [125] = ("}" : Str) := by decide +kernel
theorem s_ls : cs [91] = ("[" : Str) := by decide +kernel
theorem s_rs : cs [93] = ("]" : Str) := by decide +kernel
theorem s_eq : cs [61] = ("=" : Str) := by decide +kernel
theorem s_ne : cs [33, 61] = ("!=" : Str) := by decide +kernel
theorem s_mi : cs [45] = ("-" : Str) := by decide +kernel
theorem L_lp {r : List Nat} {rs : List Tk} (hr : NE r) (l : Lex r rs) : Lex (40 :: r) (.sym ("(" : Str) :: rs) := L_sym (by decide) s_lp hr l
theorem L_rp {r : List Nat} {rs : List Tk} (hr : NE r) (l : Lex r rs) : Lex (41 :: r) (.sym (")" : Str) :: rs) := L_sym (by decide) s_rp hr l
theorem name_in : NameOk ("in" : Str) := ⟨105, [110], by decide +kernel, by decide, by decide, by decide⟩
theorem name_not : NameOk ("not" : Str) := ⟨110, [111, 116], by decide +kernel, by decide, by decide, by decide⟩
theorem name_by : NameOk ("by" : Str) := ⟨98, [121], by decide +kernel, by decide, by decide, by decide⟩
theorem tl_in : tl ("in" : Str) = [105, 110] := by decide +kernel
theorem tl_not : tl ("not" : Str) = [110, 111, 116] := by decide +kernel
theorem tl_by : tl ("by" : Str) = [98, 121] := by decide +kernel
theorem L_in {r : List Nat} {rs : List Tk} (hr : WEnd r) (l : Lex r rs) : Lex (105 :: 110 :: r) (.word ("in" : Str) :: rs) := by
  have := L_word name_in hr l
  rw [tl_in] at this
  exact this
theorem L_not {r : List Nat} {rs : List Tk} (hr : WEnd r) (l : Lex r rs) : Lex (110 :: 111 :: 116 :: r) (.word ("not" : Str) :: rs) := by
  have := L_word name_not hr l
  rw [tl_not] at this
  exact this
theorem L_by {r : List Nat} {rs : List Tk} (hr : WEnd r) (l : Lex r rs) : Lex (98 :: 121 :: r) (.word ("by" : Str) :: rs) := by
  have := L_word name_by hr l
  rw [tl_by] at this
  exact this
theorem name_ow (o : Ow) : NameOk o.str := by
  cases o
  · exact ⟨115, [117, 109, 95, 111, 118, 101, 114], by decide +kernel, by decide, by decide, by decide⟩
  · exact ⟨109, [105, 110, 95, 111, 118, 101, 114], by decide +kernel, by decide, by decide, by decide⟩
  · exact ⟨109, [97, 120, 95, 111, 118, 101, 114], by decide +kernel, by decide, by decide, by decide⟩
  · exact ⟨99, [111, 117, 110, 116, 95, 111, 118, 101, 114], by decide +kernel, by decide, by decide, by decide⟩
  · exact ⟨108, [97, 115, 116, 95, 111, 118, 101, 114], by decide +kernel, by decide, by decide, by decide⟩
  · exact ⟨105, [110, 99, 114, 101, 97, 115, 101], by decide +kernel, by decide, by decide, by decide⟩
theorem name_aw (o : Aw) : NameOk o.str := by
  cases o
  · exact ⟨115, [117, 109], by decide +kernel, by decide, by decide, by decide⟩
  · exact ⟨109, [105, 110], by decide +kernel, by decide, by decide, by decide⟩
  · exact ⟨109, [97, 120], by decide +kernel, by decide, by decide, by decide⟩
  · exact ⟨99, [111, 117, 110, 116], by decide +kernel, by decide, by decide, by decide⟩
/-- an operator with a blank behind -/
theorem L_op (o : Op) {r : List Nat} {rs : List Tk} (l : Lex r rs) : Lex (tl o.str ++ 32 :: r) (o.tk :: rs) := by
  have l2 : Lex (32 :: r) rs := .blank l
  cases o
  · exact L_word (s := "or") ⟨111, [114], by decide +kernel, by decide, by decide, by decide⟩ (w_cons (by decide)) l2
  · exact L_word (s := "and") ⟨97, [110, 100], by decide +kernel, by decide, by decide, by decide⟩ (w_cons (by decide)) l2
  · exact L_word (s := "unless") ⟨117, [110, 108, 101, 115, 115], by decide +kernel, by decide, by decide, by decide⟩ (w_cons (by decide)) l2
  · exact (show tl Op.lt.str = [60] by decide +kernel) ▸ L_sym (c := 60) (by decide) (by decide +kernel) (n_cons (by decide)) l2
  · exact (show tl Op.le.str = [60, 61] by decide +kernel) ▸ L_pair (p := [60, 61]) (by decide) (by decide +kernel) l2
  · exact (show tl Op.gt.str = [62] by decide +kernel) ▸ L_sym (c := 62) (by decide) (by decide +kernel) (n_cons (by decide)) l2
  · exact (show tl Op.ge.str = [62, 61] by decide +kernel) ▸ L_pair (p := [62, 61]) (by decide) (by decide +kernel) l2
  · exact (show tl Op.eq.str = [61, 61] by decide +kernel) ▸ L_pair (p := [61, 61]) (by decide) (by decide +kernel) l2
  · exact (show tl Op.ne.str = [33, 61] by decide +kernel) ▸ L_pair (p := [33, 61]) (by decide) (by decide +kernel) l2
  · exact (show tl Op.add.str = [43] by decide +kernel) ▸ L_sym (c := 43) (by decide) (by decide +kernel) (n_cons (by decide)) l2
  · exact (show tl Op.sub.str = [45] by decide +kernel) ▸ L_sym (c := 45) (by decide) (by decide +kernel) (n_cons (by decide)) l2
  · exact (show tl Op.mul.str = [42] by decide +kernel) ▸ L_sym (c := 42) (by decide) (by decide +kernel) (n_cons (by decide)) l2
/-! ### the parts -/
theorem L_join {α : Type} (f : α → Str) (g : α → List Tk) : ∀ (xs : List α), xs ≠ [] → (∀ a ∈ xs, ∀ r rs, Sep r → Lex r rs → Lex (tl (f a) ++ r) (g a ++ rs)) → ∀ r rs, Sep r → Lex r rs →
    Lex (tl (Txt.join (", " : Str) (xs.map f)) ++ r) (sepTk (xs.map g) ++ rs)
  | [], h, _, _, _, _, _ => absurd rfl h
  | [a], _, hx, r, rs, hr, l => hx a List.mem_cons_self r rs hr l
  | a :: b :: xs, _, hx, r, rs, hr, l => by
    have ih := L_join f g (b :: xs) (by simp) (fun y hy => hx y (List.mem_cons_of_mem _ hy)) r rs hr l
    have h1 := hx a List.mem_cons_self (44 :: 32 :: (tl (Txt.join (", " : Str) ((b :: xs).map f)) ++ r)) (.sym ("," : Str) :: (sepTk ((b :: xs).map g) ++ rs)) (s_cons (by decide)) (L_sym (by decide) s_cm (n_cons (by decide)) (.blank ih))
    have e : tl (Txt.join (", " : Str) ((a :: b :: xs).map f)) = tl (f a) ++ 44 :: 32 :: tl (Txt.join (", " : Str) ((b :: xs).map f)) := by
      rw [TL.join_eq, TL.join_eq]
      show tl (f a ++ (", " : Str) ++ Str.join (", " : Str) (f b :: xs.map f)) = _
      rw [tla, tla, c_cm, List.append_assoc]
      rfl
    have e2 : sepTk ((a :: b :: xs).map g) = g a ++ .sym ("," : Str) :: sepTk ((b :: xs).map g) := rfl
    rw [e, e2]
    simpa only [List.append_assoc, List.cons_append] using h1
theorem L_mat {m : Mat} (ok : MatOk m) {r : List Nat} {rs : List Tk} (hr : Sep r) (l : Lex r rs) : Lex (tl (showMat m) ++ r) (matTk m ++ rs) := by
  obtain ⟨nm, vals, ins⟩ := m
  have hn : NameOk nm := ok.name.1
  have hvs : ∀ v ∈ vals, WorthOk v := ok.vals
  have hc : (∃ v, vals = [v]) ∨ ((∀ b, showMat ⟨nm, vals, b⟩ = nm ++ (if b then (" in (" : Str) else (" not in (" : Str)) ++ Txt.join (", " : Str) (vals.map q1) ++ (")" : Str)) ∧
      ∀ b, matTk ⟨nm, vals, b⟩ = .word nm :: (inTk b ++ .sym ("(" : Str) :: (sepTk (vals.map fun v => [Tk.str v]) ++ [.sym (")" : Str)]))) := by
    have hne : vals ≠ [] := ok.ne
    rcases vals with _ | ⟨v, _ | ⟨v2, vr⟩⟩
    · exact absurd rfl hne
    · exact .inl ⟨v, rfl⟩
    · exact .inr ⟨fun b => rfl, fun b => rfl⟩
  rcases hc with ⟨v, rfl⟩ | ⟨e1, e2⟩
  · have hv := hvs v List.mem_cons_self
    cases ins with
    | true =>
      have : Lex (tl nm ++ 61 :: 34 :: (tl v ++ 34 :: r)) (.word nm :: .sym ("=" : Str) :: .str v :: rs) := L_word hn (w_cons (by decide)) (L_sym (by decide) s_eq (n_cons (by decide)) (L_str hv l))
      show Lex (tl (nm ++ ("=\"" : Str) ++ v ++ ("\"" : Str)) ++ r) (.word nm :: .sym ("=" : Str) :: .str v :: rs)
      rw [tla, tla, tla, c_eq, c_q]
      simpa only [List.append_assoc, List.cons_append, List.nil_append] using this
    | false =>
      have : Lex (tl nm ++ ([33, 61] ++ 34 :: (tl v ++ 34 :: r))) (.word nm :: .sym ("!=" : Str) :: .str v :: rs) := L_word hn (w_cons (by decide)) (L_pair (by decide) s_ne (L_str hv l))
      show Lex (tl (nm ++ ("!=\"" : Str) ++ v ++ ("\"" : Str)) ++ r) (.word nm :: .sym ("!=" : Str) :: .str v :: rs)
      rw [tla, tla, tla, c_ne, c_q]
      simpa only [List.append_assoc, List.cons_append, List.nil_append] using this
  · have hj := L_join q1 (fun v => [Tk.str v]) vals ok.ne (fun v hv r rs _ l => by
      have := L_str (hvs v hv) l
      show Lex (tl (("\"" : Str) ++ v ++ ("\"" : Str)) ++ r) _
      rw [tla, tla, c_q]
      simpa only [List.append_assoc, List.cons_append, List.nil_append] using this) (41 :: r) (.sym (")" : Str) :: rs) (s_cons (by decide)) (L_rp hr.n l)
    have hne : NE (tl (Txt.join (", " : Str) (vals.map q1)) ++ 41 :: r) := by
      have hne : vals ≠ [] := ok.ne
      rcases vals with _ | ⟨v, _ | ⟨v2, vr⟩⟩
      · exact absurd rfl hne
      · intro x hx
        have e : tl (Txt.join (", " : Str) ([v].map q1)) = 34 :: (tl v ++ [34]) := by
          show tl (("\"" : Str) ++ v ++ ("\"" : Str)) = _
          rw [tla, tla, c_q]
          rfl
        rw [e] at hx
        cases hx
        decide
      · intro x hx
        have e : ∃ y, tl (Txt.join (", " : Str) ((v :: v2 :: vr).map q1)) = 34 :: y := by
          rw [TL.join_eq]
          show ∃ y, tl ((("\"" : Str) ++ v ++ ("\"" : Str)) ++ (", " : Str) ++ Str.join (", " : Str) (q1 v2 :: vr.map q1)) = 34 :: y
          rw [tla, tla, tla, tla, c_q]
          exact ⟨_, rfl⟩
        obtain ⟨y, e⟩ := e
        rw [e] at hx
        cases hx
        decide
    rw [e1, e2]
    cases ins with
    | true =>
      have := L_word hn (w_cons (c := 32) (by decide)) (.blank (L_in (w_cons (c := 32) (by decide)) (.blank (L_lp hne hj))))
      show Lex (tl (nm ++ (" in (" : Str) ++ Txt.join (", " : Str) (vals.map q1) ++ (")" : Str)) ++ r) _
      rw [tla, tla, tla, c_in, c_rp]
      simpa only [List.append_assoc, List.cons_append, List.nil_append, inTk, if_true] using this
    | false =>
      have := L_word hn (w_cons (c := 32) (by decide)) (.blank (L_not (w_cons (c := 32) (by decide)) (.blank (L_in (w_cons (c := 32) (by decide)) (.blank (L_lp hne hj))))))
      show Lex (tl (nm ++ (" not in (" : Str) ++ Txt.join (", " : Str) (vals.map q1) ++ (")" : Str)) ++ r) _
      rw [tla, tla, tla, c_ni, c_rp]
      simpa only [List.append_assoc, List.cons_append, List.nil_append, inTk, if_false, Bool.false_eq_true] using this
end Wf


set_option Elab.async false
set_option linter.all false
set_option maxRecDepth 100000
set_option maxHeartbeats 4000000
namespace Wf
open PySem PySem.Spec PyProof.Rows L2
/-- the head of a text is no '=' -/
def HeadNE (s : Str) : Prop := ∃ c x, tl s = c :: x ∧ c ≠ 61
theorem ne_of_head {s : Str} (h : HeadNE s) {r : List Nat} : NE (tl s ++ r) := by
  obtain ⟨c, x, e, h⟩ := h
  rw [e]
  exact n_cons h
theorem head_app {a b : Str} (h : HeadNE a) : HeadNE (a ++ b) := by
  obtain ⟨c, x, e, h⟩ := h
  exact ⟨c, x ++ tl b, by rw [tla, e]; rfl, h⟩
theorem head_name {s : Str} (h : NameOk s) : HeadNE s := by
  obtain ⟨c, x, e, hc, _⟩ := h
  exact ⟨c, x, e, fun e2 => by rw [e2] at hc; exact absurd hc (by decide)⟩
theorem head_lp (s : Str) : HeadNE (("(" : Str) ++ s) := ⟨40, tl s, by rw [tla, c_lp]; rfl, by decide⟩
theorem head_mat {m : Mat} (ok : MatOk m) : HeadNE (showMat m) := by
  have h := head_name ok.name.1
  unfold showMat
  split
  · exact head_app (head_app (head_app h))
  · exact head_app (head_app (head_app h))
theorem head_join {ss : List Str} {s : Str} (h : HeadNE s) : HeadNE (Txt.join (", " : Str) (s :: ss)) := by
  rw [TL.join_eq]
  cases ss with
  | nil => exact h
  | cons t ss => exact head_app (head_app h)
theorem L_sel {m : Str} {ms : List Mat} (hm : NameOk m) (ok : MatsOk ms) {r : List Nat} {rs : List Tk} (hr : Sep r) (l : Lex r rs) : Lex (tl (showSel m ms) ++ r) (selTk m ms ++ rs) := by
  cases ms with
  | nil => exact L_word hm hr.w l
  | cons a ms =>
    have hj := L_join showMat matTk (a :: ms) (by simp) (fun x hx r rs hr l => L_mat (ok.all x hx) hr l) (125 :: r) (.sym ("}" : Str) :: rs) (s_cons (by decide)) (L_sym (by decide) s_rb hr.n l)
    have hh : HeadNE (Txt.join (", " : Str) ((a :: ms).map showMat)) := head_join (head_mat (ok.all a List.mem_cons_self))
    have := L_word hm (w_cons (c := 123) (by decide)) (L_sym (by decide) s_lb (ne_of_head hh) hj)
    show Lex (tl (m ++ ("{" : Str) ++ Txt.join (", " : Str) ((a :: ms).map showMat) ++ ("}" : Str)) ++ r) ((.word m :: .sym ("{" : Str) :: (sepTk ((a :: ms).map matTk) ++ [.sym ("}" : Str)])) ++ rs)
    rw [tla, tla, tla, c_lb, c_rb]
    simpa only [List.append_assoc, List.cons_append, List.nil_append] using this
theorem head_sel {m : Str} {ms : List Mat} (hm : NameOk m) : HeadNE (showSel m ms) := by
  unfold showSel
  split
  · exact head_name hm
  · exact head_app (head_app (head_app (head_name hm)))
theorem L_agg {w : Str} {ns : List Str} {i : Str} {ts : List Tk} (hw : NameOk w) (hn : ∀ n ∈ ns, NameOk n) (hh : HeadNE i) (hi : ∀ r rs, Sep r → Lex r rs → Lex (tl i ++ r) (ts ++ rs)) {r : List Nat} {rs : List Tk} (hr : Sep r) (l : Lex r rs) :
    Lex (tl (showAgg w ns i) ++ r) (aggTk w ns ts ++ rs) := by
  have h1 := hi (41 :: r) (.sym (")" : Str) :: rs) (s_cons (by decide)) (L_rp hr.n l)
  have h2 := L_lp (ne_of_head hh) h1
  cases ns with
  | nil =>
    have := L_word hw (w_cons (c := 40) (by decide)) h2
    show Lex (tl (w ++ ("(" : Str) ++ i ++ (")" : Str)) ++ r) ((.word w :: .sym ("(" : Str) :: (ts ++ [.sym (")" : Str)])) ++ rs)
    rw [tla, tla, tla, c_lp, c_rp]
    simpa only [List.append_assoc, List.cons_append, List.nil_append] using this
  | cons a ns =>
    have hj := L_join (fun s => s) (fun s => [Tk.word s]) (a :: ns) (by simp) (fun x hx r rs hr l => L_word (hn x hx) hr.w l) (41 :: 32 :: 40 :: (tl i ++ 41 :: r)) (.sym (")" : Str) :: .sym ("(" : Str) :: (ts ++ .sym (")" : Str) :: rs)) (s_cons (by decide)) (L_rp (n_cons (by decide)) (.blank h2))
    have hh2 : HeadNE (Txt.join (", " : Str) ((a :: ns).map fun s => s)) := head_join (head_name (hn a List.mem_cons_self))
    have := L_word hw (w_cons (c := 32) (by decide)) (.blank (L_by (w_cons (c := 32) (by decide)) (.blank (L_lp (ne_of_head hh2) hj))))
    rw [List.map_id'] at this
    show Lex (tl (w ++ (" by (" : Str) ++ Txt.join (", " : Str) (a :: ns) ++ (") (" : Str) ++ i ++ (")" : Str)) ++ r) ((.word w :: .word ("by" : Str) :: .sym ("(" : Str) :: (sepTk ((a :: ns).map fun n => [Tk.word n]) ++ .sym (")" : Str) :: .sym ("(" : Str) :: (ts ++ [.sym (")" : Str)]))) ++ rs)
    rw [tla, tla, tla, tla, tla, c_by, c_bp, c_rp]
    simpa only [List.append_assoc, List.cons_append, List.nil_append] using this
theorem head_agg {w : Str} {ns : List Str} {i : Str} (hw : NameOk w) : HeadNE (showAgg w ns i) := by
  unfold showAgg
  split
  · exact head_app (head_app (head_app (head_name hw)))
  · exact head_app (head_app (head_app (head_app (head_app (head_name hw)))))
theorem L_brk {b : Bool} {x : Str} {ts : List Tk} (hh : HeadNE x) (hi : ∀ r rs, Sep r → Lex r rs → Lex (tl x ++ r) (ts ++ rs)) {r : List Nat} {rs : List Tk} (hr : Sep r) (l : Lex r rs) : Lex (tl (brk b x) ++ r) (brkTk b ts ++ rs) := by
  cases b with
  | false => exact hi r rs hr l
  | true =>
    have h1 := hi (41 :: r) (.sym (")" : Str) :: rs) (s_cons (by decide)) (L_rp hr.n l)
    have := L_lp (ne_of_head hh) h1
    show Lex (tl (("(" : Str) ++ x ++ (")" : Str)) ++ r) ((.sym ("(" : Str) :: (ts ++ [.sym (")" : Str)])) ++ rs)
    rw [tla, tla, c_lp, c_rp]
    simpa only [List.append_assoc, List.cons_append, List.nil_append] using this
theorem head_brk {b : Bool} {x : Str} (hh : HeadNE x) : HeadNE (brk b x) := by
  cases b with
  | false => exact hh
  | true => exact head_app (head_lp x)
theorem numL_hd (n : Nat) : ∃ c x, TL.numL n = c :: x ∧ c ≠ 61 := by
  cases e : TL.numL n with
  | nil => exact absurd e (TL.numL_ne n)
  | cons c x => exact ⟨c, x, rfl, fun h => TL.numL_free (n := n) (s := 61) (.inr (by decide)) (by rw [e, h]; exact List.mem_cons_self)⟩
theorem tl_int (n : Int) : tl (Str.ofString (toString n)) = if 0 ≤ n then TL.numL n.toNat else 45 :: TL.numL (-n).toNat := by
  rw [int_str]
  split
  · exact TL.tl_num _
  · rw [tla, show tl ("-" : Str) = [45] by decide +kernel]
    show 45 :: tl _ = _
    rw [show tl (Str.ofString (toString (((-n).toNat : Nat) : Int))) = TL.numL (-n).toNat from TL.tl_num _]
theorem L_int {n : Int} (h : n.natAbs < 1000000000000000) {r : List Nat} {rs : List Tk} (hr : Sep r) (l : Lex r rs) : Lex (tl (Str.ofString (toString n)) ++ r) (numTk n ++ rs) := by
  rw [tl_int]
  unfold numTk
  by_cases h0 : 0 ≤ n
  · rw [if_pos h0, if_pos h0]
    have := L_num (n := n.toNat) (by omega) hr.w l
    rw [Int.toNat_of_nonneg h0] at this
    exact this
  · rw [if_neg h0, if_neg h0]
    have := L_num (n := (-n).toNat) (by omega) hr.w l
    rw [Int.toNat_of_nonneg (by omega)] at this
    obtain ⟨c, x, e, hc⟩ := numL_hd (-n).toNat
    exact L_sym (by decide) s_mi (by rw [e]; exact n_cons hc) this
theorem head_int (n : Int) : HeadNE (Str.ofString (toString n)) := by
  unfold HeadNE
  rw [tl_int]
  split
  · exact numL_hd _
  · exact ⟨45, _, rfl, by decide⟩
theorem head_show : ∀ {e : Ex}, e.Ok → HeadNE e.show
  | .num n, _ => head_int n
  | .latest m ms, ok => head_sel ok.1
  | .over w m ms s, ok => head_app (head_app (head_app (head_app (head_app (head_name (name_ow w))))))
  | .bin o l r, ok => head_app (head_app (head_app (head_app (head_brk (head_show ok.1)))))
  | .agg w ns i, ok => head_agg (name_aw w)
/-- THE TEXT OF THE NORMAL FORM, sign by sign -/
theorem L_show : ∀ {e : Ex}, e.Ok → ∀ r rs, Sep r → Lex r rs → Lex (tl e.show ++ r) (toks e ++ rs)
  | .num n, ok, r, rs, hr, l => L_int ok hr l
  | .latest m ms, ok, r, rs, hr, l => L_sel ok.1 ok.2 hr l
  | .over w m ms s, ok, r, rs, hr, l => by
    have hs : 0 ≤ s := by have := ok.2.2; omega
    have hs2 : s.natAbs < 1000000000000000 := by have := ok.2.2; omega
    have h1 : Lex (93 :: 41 :: r) (.sym ("]" : Str) :: .sym (")" : Str) :: rs) := L_sym (by decide) s_rs (n_cons (by decide)) (L_rp hr.n l)
    have h2 := L_int hs2 (s_cons (c := 93) (by decide)) h1
    have e : numTk s = [.num s] := if_pos hs
    rw [e] at h2
    have h3 := L_sym (c := 91) (by decide) s_ls (ne_of_head (head_int s)) h2
    have h4 := L_sel ok.1 ok.2.1 (s_cons (c := 91) (by decide)) h3
    have := L_word (name_ow w) (w_cons (c := 40) (by decide)) (L_lp (ne_of_head (head_sel ok.1)) h4)
    show Lex (tl (w.str ++ ("(" : Str) ++ showSel m ms ++ ("[" : Str) ++ (Str.ofString (toString s)) ++ ("])" : Str)) ++ r) ((.word w.str :: .sym ("(" : Str) :: (selTk m ms ++ [.sym ("[" : Str), .num s, .sym ("]" : Str), .sym (")" : Str)])) ++ rs)
    rw [tla, tla, tla, tla, tla, c_lp, c_ls, c_rs]
    simpa only [List.append_assoc, List.cons_append, List.nil_append] using this
  | .bin o a b, ok, r, rs, hr, l => by
    have h1 := L_brk (b := decide (b.lev < o.lev + 1)) (head_show ok.2) (fun r rs hr l => L_show ok.2 r rs hr l) hr l
    have h2 := L_op o h1
    have := L_brk (b := decide (a.lev < o.lev)) (head_show ok.1) (fun r rs hr l => L_show ok.1 r rs hr l) (s_cons (c := 32) (by decide)) (.blank h2)
    show Lex (tl (brk (decide (a.lev < o.lev)) a.show ++ (" " : Str) ++ o.str ++ (" " : Str) ++ brk (decide (b.lev < o.lev + 1)) b.show) ++ r) ((brkTk (decide (a.lev < o.lev)) (toks a) ++ o.tk :: brkTk (decide (b.lev < o.lev + 1)) (toks b)) ++ rs)
    rw [tla, tla, tla, tla, c_sp]
    simpa only [List.append_assoc, List.cons_append, List.nil_append] using this
  | .agg w ns i, ok, r, rs, hr, l => L_agg (name_aw w) ok.1 (head_show ok.2.2) (fun r rs hr l => L_show ok.2.2 r rs hr l) hr l
theorem lex_show {e : Ex} (ok : e.Ok) : Lex (tl e.show) (toks e) := by
  have := L_show ok [] [] sep_nil .nil
  rw [List.append_nil, List.append_nil] at this
  exact this
end Wf


set_option Elab.async false
set_option linter.all false
set_option maxRecDepth 100000
set_option maxHeartbeats 4000000
namespace Wf
open PySem PySem.Spec PyProof.Rows L2
theorem Runs.one {md md1 : Md} {co co1 : Core} {tk : Tk} (h : Step md co tk md1 co1) : Runs md co [tk] md1 co1 := .cons h .nil
theorem Runs.app {md md1 md2 : Md} {co co1 co2 : Core} {ts us : List Tk} (h1 : Runs md co ts md1 co1) (h2 : Runs md1 co1 us md2 co2) : Runs md co (ts ++ us) md2 co2 := by
  induction h1 with
  | nil => exact h2
  | cons h _ ih => exact .cons h (ih h2)
/-! ### matchers -/
theorem run_items {co : Core} {o : Option Ow} {m l : Str} {ms : List Mat} {b : Bool} : ∀ (vs fo : List Str), vs ≠ [] → fo.length + vs.length ≤ 1000 → Runs (.item o m ms l b fo) co (sepTk (vs.map fun v => [Tk.str v])) (.itemEnd o m ms l b (fo ++ vs)) co
  | [], _, h, _ => absurd rfl h
  | [v], fo, _, hl => .one (.item v (by simp only [List.length_singleton] at hl; omega))
  | v :: u :: vs, fo, _, hl => by
    have ih := run_items (co := co) (o := o) (m := m) (l := l) (ms := ms) (b := b) (u :: vs) (fo ++ [v]) (by simp) (by simp only [List.length_append, List.length_cons, List.length_nil] at hl ⊢; omega)
    rw [List.append_assoc] at ih
    exact .cons (.item v (by simp only [List.length_cons] at hl; omega)) (.cons .itemMore ih)
theorem run_mat {co : Core} {o : Option Ow} {m : Str} {ms : List Mat} {a : Mat} (ok : MatOk a) (hl : ms.length ≤ 1000) : Runs (.label o m ms) co (matTk a) (.matched o m (ms ++ [a])) co := by
  obtain ⟨nm, vals, ins⟩ := a
  have hn : nm ≠ "metric" := ok.name.2
  have hf : vals.length ≤ 6 := ok.few
  have hc : (∃ v, vals = [v]) ∨ ∀ b, matTk ⟨nm, vals, b⟩ = .word nm :: (inTk b ++ .sym ("(" : Str) :: (sepTk (vals.map fun v => [Tk.str v]) ++ [.sym (")" : Str)])) := by
    have hne : vals ≠ [] := ok.ne
    rcases vals with _ | ⟨v, _ | ⟨v2, vr⟩⟩
    · exact absurd rfl hne
    · exact .inl ⟨v, rfl⟩
    · exact .inr fun b => rfl
  rcases hc with ⟨v, rfl⟩ | e
  · cases ins with
    | true => exact .cons (.label nm hn) (.cons .testEq (.one (.value v hl)))
    | false => exact .cons (.label nm hn) (.cons .testNe (.one (.value v hl)))
  · have hi := run_items (co := co) (o := o) (m := m) (l := nm) (ms := ms) (b := ins) vals [] ok.ne (by simp only [List.length_nil]; omega)
    rw [e]
    cases ins with
    | true => exact .cons (.label nm hn) (.cons .testIn (.cons .listOpen (hi.app (.one (.itemEnd hf hl)))))
    | false => exact .cons (.label nm hn) (.cons .testNot (.cons .notIn (.cons .listOpen (hi.app (.one (.itemEnd hf hl))))))
theorem run_mats {co : Core} {o : Option Ow} {m : Str} : ∀ (ms ms0 : List Mat), ms ≠ [] → (∀ a ∈ ms, MatOk a) → ms0.length + ms.length ≤ 1000 → Runs (.label o m ms0) co (sepTk (ms.map matTk)) (.matched o m (ms0 ++ ms)) co
  | [], _, h, _, _ => absurd rfl h
  | [a], ms0, _, ok, hl => run_mat (ok a List.mem_cons_self) (by simp only [List.length_singleton] at hl; omega)
  | a :: b :: ms, ms0, _, ok, hl => by
    have h1 := run_mat (co := co) (o := o) (m := m) (ms := ms0) (ok a List.mem_cons_self) (by simp only [List.length_cons] at hl; omega)
    have ih := run_mats (co := co) (o := o) (m := m) (b :: ms) (ms0 ++ [a]) (by simp) (fun x hx => ok x (List.mem_cons_of_mem _ hx)) (by simp only [List.length_append, List.length_cons, List.length_nil] at hl ⊢; omega)
    rw [List.append_assoc] at ih
    exact h1.app (.cons .matchedMore ih)
theorem run_names {co : Core} {a : Aw} : ∀ (ns fo : List Str), ns ≠ [] → fo.length + ns.length ≤ 1000 → Runs (.byName a fo) co (sepTk (ns.map fun n => [Tk.word n])) (.byEnd a (fo ++ ns)) co
  | [], _, h, _ => absurd rfl h
  | [v], fo, _, hl => .one (.byName v (by simp only [List.length_singleton] at hl; omega))
  | v :: u :: vs, fo, _, hl => by
    have ih := run_names (co := co) (a := a) (u :: vs) (fo ++ [v]) (by simp) (by simp only [List.length_append, List.length_cons, List.length_nil] at hl ⊢; omega)
    rw [List.append_assoc] at ih
    exact .cons (.byName v (by simp only [List.length_cons] at hl; omega)) (.cons .byMore ih)
/-! ### behind an operand -/
/-- what the next token meets -/
def Meets (md : Md) (co coD : Core) : Prop := (md = .done ∧ coD = co) ∨ ∃ wd, md = .named wd ∧ coD = co.named wd
theorem Meets.step {md md2 : Md} {co coD co2 : Core} {tk : Tk} (h : Meets md co coD) (s : StepD coD tk md2 co2) : Step md co tk md2 co2 := by
  rcases h with ⟨rfl, rfl⟩ | ⟨wd, rfl, rfl⟩
  · exact .done s
  · exact .namedDone wd s
structure After (co : Core) (e : Ex) (least : Nat) (coD : Core) (e1 : Ex) : Prop where
  made : coD.made = some e1
  pre : ∃ pre, coD.stack = pre ++ co.stack ∧ AllInf pre
  sel : coD.sel = co.sel + e.sel
  spans : coD.spans ≤ co.spans + e.sel
  comb : ∀ n, n ≤ least → comb n coD.stack e1 coD.ops = comb n co.stack e (co.ops + e.ops)
/-- the top of the stack binds less than p -/
def Below (p : Nat) : List Ent → Prop
  | .inf o _ :: _ => o.lev < p
  | _ => True
theorem comb_stop {p : Nat} {st : List Ent} (h : Below p st) (e : Ex) (n : Nat) : comb p st e n = some (st, e, n) := by
  cases st with
  | nil => rfl
  | cons x st =>
    cases x with
    | «open» => rfl
    | agg w ns => rfl
    | inf o l =>
      show (if p ≤ o.lev then _ else _) = _
      rw [if_neg (by have : o.lev < p := h; omega)]
structure Room' (co : Core) (e : Ex) : Prop where
  stack : co.stack.length + 3 * e.ops ≤ 900
  spans : co.spans + e.sel ≤ 900
def Reads' (e : Ex) : Prop := ∀ co : Core, Room' co e → Below e.lev co.stack → ∃ md co' coD e1, Runs .operand co (toks e) md co' ∧ Meets md co' coD ∧ After co e e.lev coD e1
theorem meets_done (co : Core) : Meets .done co co := .inl ⟨rfl, rfl⟩
theorem reads_num (n : Int) : Reads' (.num n) := fun co _ _ => by
  by_cases h0 : 0 ≤ n
  · refine ⟨.done, { co with made := some (.num n) }, _, .num n, ?_, meets_done _, ⟨rfl, ⟨[], rfl, fun e he => by cases he⟩, rfl, Nat.le_refl _, fun k _ => rfl⟩⟩
    rw [show toks (.num n) = [.num n] from if_pos h0]
    exact .one (.num n)
  · have h : Runs .operand co [.sym ("-" : Str), .num (-n)] .done { co with made := some (.num (- -n)) } := .cons .minus (.one (.neg (-n)))
    rw [Int.neg_neg] at h
    refine ⟨.done, { co with made := some (.num n) }, _, .num n, ?_, meets_done _, ⟨rfl, ⟨[], rfl, fun e he => by cases he⟩, rfl, Nat.le_refl _, fun k _ => rfl⟩⟩
    rw [show toks (.num n) = [.sym ("-" : Str), .num (-n)] from if_neg h0]
    exact h
theorem reads_latest {m : Str} {ms : List Mat} (ok : MatsOk ms) : Reads' (.latest m ms) := fun co _ _ => by
  cases ms with
  | nil => exact ⟨.named m, co, co.named m, .latest m [], .one (.word m), .inr ⟨m, rfl, rfl⟩, ⟨rfl, ⟨[], rfl, fun e he => by cases he⟩, rfl, Nat.le_add_right _ _, fun k _ => rfl⟩⟩
  | cons a ms =>
    have hf := ok.few
    have hr := run_mats (co := co) (o := none) (m := m) (a :: ms) [] (by simp) ok.all (by simp only [List.length_nil]; omega)
    refine ⟨.done, { co with made := some (.latest m (a :: ms)), sel := co.sel + 1 }, _, .latest m (a :: ms), ?_, meets_done _, ⟨rfl, ⟨[], rfl, fun e he => by cases he⟩, rfl, Nat.le_add_right _ _, fun k _ => rfl⟩⟩
    exact .cons (.word m) (.cons (.brace m) (hr.app (.one (.matchedEnd hf))))
theorem run_range {co : Core} {w : Ow} {m : Str} {ms : List Mat} {s : Int} (h1 : 1 ≤ s) (h2 : s ≤ 1000) (hz : co.spans ≤ 1000) : Runs (.span w m ms) co [.num s, .sym ("]" : Str), .sym (")" : Str)] .done { co with spans := co.spans + 1, made := some (.over w m ms s), sel := co.sel + 1 } :=
  .cons (.span s h1 h2 hz) (.cons .spanEnd (.one .overClose))
theorem reads_over {w : Ow} {m : Str} {ms : List Mat} {s : Int} (ok : MatsOk ms) (h1 : 1 ≤ s) (h2 : s ≤ 1000) : Reads' (.over w m ms s) := fun co hr _ => by
  have hsp : co.spans + 1 ≤ 900 := hr.spans
  have hrg := run_range (co := co) (w := w) (m := m) (ms := ms) h1 h2 (by omega)
  refine ⟨.done, { co with spans := co.spans + 1, made := some (.over w m ms s), sel := co.sel + 1 }, _, .over w m ms s, ?_, meets_done _, ⟨rfl, ⟨[], rfl, fun e he => by cases he⟩, rfl, Nat.le_refl _, fun k _ => rfl⟩⟩
  cases ms with
  | nil => exact .cons (.word w.str) (.cons (.overOpen w) (.cons (.overMetric w m) (.cons (.overRange w m) hrg)))
  | cons a ms =>
    have hf := ok.few
    have hm := run_mats (co := co) (o := some w) (m := m) (a :: ms) [] (by simp) ok.all (by simp only [List.length_nil]; omega)
    have hm2 : Runs (.label (some w) m []) co ((sepTk ((a :: ms).map matTk) ++ [.sym ("}" : Str)]) ++ [.sym ("[" : Str), .num s, .sym ("]" : Str), .sym (")" : Str)]) _ _ := (hm.app (.one (.matchedEnd hf))).app (.cons .rangeOpen hrg)
    exact .cons (.word w.str) (.cons (.overOpen w) (.cons (.overMetric w m) (.cons (.overBrace w m) hm2)))
/-! ### brackets, operators, aggregations -/
def Fits (co : Core) (e : Ex) : Prop := co.stack.length + 3 * e.ops ≤ 900 ∧ co.spans + e.sel ≤ 900
/-- in brackets or not: read as an operand that binds at least p -/
theorem reads_brk {e : Ex} {b : Bool} {p : Nat} (h : Reads' e) (hb : b = decide (e.lev < p)) (co : Core) (h1 : co.stack.length + 3 * e.ops ≤ 899) (h2 : co.spans + e.sel ≤ 900) (hbel : Below p co.stack) :
    ∃ md co' coD e1, Runs .operand co (brkTk b (toks e)) md co' ∧ Meets md co' coD ∧ After co e p coD e1 := by
  by_cases hp : e.lev < p
  · rw [hb, decide_eq_true hp]
    obtain ⟨md, co', coD, e1, hr, hm, ha⟩ := h { co with stack := .open :: co.stack } ⟨by show (co.stack.length + 1) + _ ≤ _; omega, h2⟩ trivial
    have hc := ha.comb 0 (Nat.zero_le _)
    rw [show comb 0 (.open :: co.stack) e (co.ops + e.ops) = some (.open :: co.stack, e, co.ops + e.ops) from rfl] at hc
    refine ⟨.done, ⟨co.stack, some e, coD.sel, co.ops + e.ops, coD.spans⟩, _, e, ?_, meets_done _, ⟨rfl, ⟨[], rfl, fun e he => by cases he⟩, ha.sel, ha.spans, fun n _ => rfl⟩⟩
    exact .cons (.open (by omega)) (hr.app (.one (hm.step (.close ha.made hc))))
  · rw [hb, decide_eq_false hp]
    have hbel2 : Below e.lev co.stack := by
      cases hst : co.stack with
      | nil => trivial
      | cons x st =>
        cases x with
        | «open» => trivial
        | agg w ns => trivial
        | inf o l =>
          rw [hst] at hbel
          have : o.lev < p := hbel
          show o.lev < e.lev
          omega
    obtain ⟨md, co', coD, e1, hr, hm, ha⟩ := h co ⟨by omega, h2⟩ hbel2
    exact ⟨md, co', coD, e1, hr, hm, ⟨ha.made, ha.pre, ha.sel, ha.spans, fun n hn => ha.comb n (by omega)⟩⟩
theorem reads_bin {o : Op} {l r : Ex} (hl : Reads' l) (hr : Reads' r) (hk : (Ex.bin o l r).kd ≠ none) : Reads' (.bin o l r) := fun co hroom hbel => by
  have hs : co.stack.length + 3 * (l.ops + r.ops + 1) ≤ 900 := hroom.stack
  have hsp : co.spans + (l.sel + r.sel) ≤ 900 := hroom.spans
  have hbel : Below o.lev co.stack := hbel
  have hk2 : (Ex.bin o l r).kd.isSome = true := by
    cases h : (Ex.bin o l r).kd with
    | none => exact absurd h hk
    | some k => rfl
  obtain ⟨md1, c1, d1, e1, R1, M1, A1⟩ := reads_brk (p := o.lev) hl rfl co (by omega) (by omega) hbel
  have hc := A1.comb o.lev (Nat.le_refl _)
  rw [comb_stop hbel] at hc
  have hst : StepD d1 o.tk .operand ⟨.inf o l :: co.stack, some l, d1.sel, co.ops + l.ops, d1.spans⟩ := .op o A1.made hc (by omega)
  have h1 := A1.sel
  have h2 := A1.spans
  obtain ⟨md3, c3, d3, e3, R3, M3, A3⟩ := reads_brk (p := o.lev + 1) hr rfl ⟨.inf o l :: co.stack, some l, d1.sel, co.ops + l.ops, d1.spans⟩ (by show (co.stack.length + 1) + _ ≤ _; omega) (by show d1.spans + _ ≤ _; omega) (by show o.lev < o.lev + 1; omega)
  have h3 : d3.sel = d1.sel + r.sel := A3.sel
  have h4 : d3.spans ≤ d1.spans + r.sel := A3.spans
  refine ⟨md3, c3, d3, e3, R1.app (.cons (M1.step hst) R3), M3, ⟨A3.made, ?_, by show d3.sel = co.sel + (l.sel + r.sel); omega, by show d3.spans ≤ co.spans + (l.sel + r.sel); omega, fun n hn => ?_⟩⟩
  · obtain ⟨pre, hp, hall⟩ := A3.pre
    refine ⟨pre ++ [.inf o l], by rw [hp, List.append_assoc]; rfl, fun x hx => ?_⟩
    rcases List.mem_append.mp hx with k | k
    · exact hall x k
    · exact ⟨o, l, List.mem_singleton.mp k⟩
  · have hn : n ≤ o.lev := hn
    rw [A3.comb n (by omega)]
    show (if n ≤ o.lev then (if (Ex.bin o l r).kd.isSome then comb n co.stack (.bin o l r) (co.ops + l.ops + r.ops + 1) else none) else _) = comb n co.stack (.bin o l r) (co.ops + (l.ops + r.ops + 1))
    rw [if_pos hn, if_pos hk2, show co.ops + l.ops + r.ops + 1 = co.ops + (l.ops + r.ops + 1) by omega]
theorem reads_agg {w : Aw} {ns : List Str} {i : Ex} (h : Reads' i) (hf : ns.length ≤ 6) (hk : i.kd = some true) : Reads' (.agg w ns i) := fun co hroom _ => by
  have hs : co.stack.length + 3 * (i.ops + 1) ≤ 900 := hroom.stack
  have hsp : co.spans + i.sel ≤ 900 := hroom.spans
  obtain ⟨md, co', coD, e1, hr, hm, ha⟩ := h { co with stack := .agg w ns :: co.stack } ⟨by show (co.stack.length + 1) + _ ≤ _; omega, hsp⟩ trivial
  have hc := ha.comb 0 (Nat.zero_le _)
  rw [show comb 0 (.agg w ns :: co.stack) i (co.ops + i.ops) = some (.agg w ns :: co.stack, i, co.ops + i.ops) from rfl] at hc
  refine ⟨.done, ⟨co.stack, some (.agg w ns i), coD.sel, co.ops + i.ops + 1, coD.spans⟩, _, .agg w ns i, ?_, meets_done _, ⟨rfl, ⟨[], rfl, fun e he => by cases he⟩, ha.sel, ha.spans, fun n _ => rfl⟩⟩
  have tail : Runs .operand { co with stack := .agg w ns :: co.stack } (toks i ++ [.sym (")" : Str)]) .done ⟨co.stack, some (.agg w ns i), coD.sel, co.ops + i.ops + 1, coD.spans⟩ := hr.app (.one (hm.step (.agg ha.made hc hk)))
  cases ns with
  | nil => exact .cons (.word w.str) (.cons (.aggOpen0 w (by omega)) tail)
  | cons a ns =>
    have hn := run_names (co := co) (a := w) (a :: ns) [] (by simp) (by simp only [List.length_nil]; omega)
    exact .cons (.word w.str) (.cons (.by w) (.cons .byOpen (hn.app (.cons .byEnd (.cons (.aggOpen hf (by omega)) tail)))))
theorem kd_bin {o : Op} {l r : Ex} (h : (Ex.bin o l r).kd ≠ none) : l.kd ≠ none ∧ r.kd ≠ none := by
  have h : kdBin o l.kd r.kd ≠ none := h
  constructor
  · intro e
    rw [e] at h
    exact h rfl
  · intro e
    rw [e] at h
    cases hl : l.kd <;> rw [hl] at h <;> exact h rfl
theorem kd_agg {w : Aw} {ns : List Str} {i : Ex} (h : (Ex.agg w ns i).kd ≠ none) : i.kd = some true := by
  have h : (if i.kd = some true then some true else none) ≠ none := h
  by_cases e : i.kd = some true
  · exact e
  · rw [if_neg e] at h
    exact absurd rfl h
theorem reads_all : ∀ {e : Ex}, e.Ok → e.kd ≠ none → Reads' e
  | .num n, _, _ => reads_num n
  | .latest m ms, ok, _ => reads_latest ok.2
  | .over w m ms s, ok, _ => reads_over ok.2.1 ok.2.2.1 ok.2.2.2
  | .bin o l r, ok, hk => reads_bin (reads_all ok.1 (kd_bin hk).1) (reads_all ok.2 (kd_bin hk).2) hk
  | .agg w ns i, ok, hk => reads_agg (reads_all ok.2.2 (by rw [kd_agg hk]; simp)) ok.2.1 (kd_agg hk)
/-! ### brackets in brackets -/
theorem d_flat {d : Int} {t : Tk} {ts : List Tk} (h1 : t.isOpen = false) (h2 : t.isClose = false) (h : depthOk d ts) : depthOk d (t :: ts) := by
  show if t.isOpen = true then _ else _
  rw [h1, if_neg (by decide), h2, if_neg (by decide)]
  exact h
theorem d_open {d : Int} {ts : List Tk} (h1 : d ≠ 20) (h : depthOk (d + 1) ts) : depthOk d (.sym ("(" : Str) :: ts) := by
  show if (Tk.sym ("(" : Str)).isOpen = true then _ else _
  rw [if_pos (by decide +kernel)]
  exact ⟨h1, h⟩
theorem d_close {d : Int} {ts : List Tk} (h : depthOk (d - 1) ts) : depthOk d (.sym (")" : Str) :: ts) := by
  show if (Tk.sym (")" : Str)).isOpen = true then _ else _
  rw [if_neg (by decide +kernel), if_pos (by decide +kernel)]
  exact h
theorem d_word {d : Int} {s : Str} {ts : List Tk} (h : depthOk d ts) : depthOk d (.word s :: ts) := d_flat rfl rfl h
theorem d_sym {d : Int} {s : Str} {ts : List Tk} (h1 : (Tk.sym s).isOpen = false) (h2 : (Tk.sym s).isClose = false) (h : depthOk d ts) : depthOk d (.sym s :: ts) := d_flat h1 h2 h
def Deep (k : Int) (ts : List Tk) : Prop := ∀ d rest, d ≤ k → depthOk d rest → depthOk d (ts ++ rest)
theorem deep_sep {k : Int} : ∀ (xs : List (List Tk)), (∀ x ∈ xs, Deep k x) → Deep k (sepTk xs)
  | [], _ => fun _ _ _ h => h
  | [x], h => h x List.mem_cons_self
  | x :: y :: r, h => fun d rest hd hr => by
    have ih := deep_sep (y :: r) (fun z hz => h z (List.mem_cons_of_mem _ hz)) d rest hd hr
    have := h x List.mem_cons_self d (.sym ("," : Str) :: (sepTk (y :: r) ++ rest)) hd (d_sym (by decide +kernel) (by decide +kernel) ih)
    show depthOk d ((x ++ .sym ("," : Str) :: sepTk (y :: r)) ++ rest)
    rw [List.append_assoc]
    exact this
theorem deep_mat {m : Mat} : Deep 18 (matTk m) := fun d rest hd hr => by
  obtain ⟨nm, vals, ins⟩ := m
  have hc : (∃ v, vals = [v]) ∨ matTk ⟨nm, vals, ins⟩ = .word nm :: (inTk ins ++ .sym ("(" : Str) :: (sepTk (vals.map fun v => [Tk.str v]) ++ [.sym (")" : Str)])) := by
    rcases vals with _ | ⟨v, _ | ⟨v2, vr⟩⟩
    · exact .inr rfl
    · exact .inl ⟨v, rfl⟩
    · exact .inr rfl
  rcases hc with ⟨v, rfl⟩ | e
  · cases ins with
    | true => exact d_word (d_sym (s := "=") (by decide +kernel) (by decide +kernel) (d_flat (t := .str v) rfl rfl hr))
    | false => exact d_word (d_sym (s := "!=") (by decide +kernel) (by decide +kernel) (d_flat (t := .str v) rfl rfl hr))
  · have hs : Deep 20 (sepTk (vals.map fun v => [Tk.str v])) := deep_sep _ fun x hx => by
      obtain ⟨v, _, rfl⟩ := List.mem_map.mp hx
      exact fun d rest _ h => d_flat rfl rfl h
    have h1 := hs (d + 1) (.sym (")" : Str) :: rest) (by omega) (d_close (by rw [Int.add_sub_cancel]; exact hr))
    have h2 := d_open (d := d) (by omega) h1
    rw [e]
    cases ins with
    | true =>
      have := d_word (s := nm) (d_word (s := "in") h2)
      simpa only [List.append_assoc, List.cons_append, List.nil_append, inTk, if_true] using this
    | false =>
      have := d_word (s := nm) (d_word (s := "not") (d_word (s := "in") h2))
      simpa only [List.append_assoc, List.cons_append, List.nil_append, inTk, if_false, Bool.false_eq_true] using this
theorem deep_sel {m : Str} {ms : List Mat} : Deep 18 (selTk m ms) := fun d rest hd hr => by
  cases ms with
  | nil => exact d_word hr
  | cons a ms =>
    have hs : Deep 18 (sepTk ((a :: ms).map matTk)) := deep_sep _ fun x hx => by
      obtain ⟨v, _, rfl⟩ := List.mem_map.mp hx
      exact deep_mat
    have h1 := hs d (.sym ("}" : Str) :: rest) hd (d_sym (by decide +kernel) (by decide +kernel) hr)
    have := d_word (s := m) (d_sym (s := "{") (by decide +kernel) (by decide +kernel) h1)
    show depthOk d ((.word m :: .sym ("{" : Str) :: (sepTk ((a :: ms).map matTk) ++ [.sym ("}" : Str)])) ++ rest)
    simpa only [List.append_assoc, List.cons_append, List.nil_append] using this
theorem deep_brk {b : Bool} {k : Int} {ts : List Tk} (hk : k ≤ 18) (h : Deep (k + 1) ts) : Deep k (brkTk b ts) := fun d rest hd hr => by
  cases b with
  | false => exact h d rest (by omega) hr
  | true =>
    have h1 := h (d + 1) (.sym (")" : Str) :: rest) (by omega) (d_close (by rw [Int.add_sub_cancel]; exact hr))
    have := d_open (d := d) (by omega) h1
    show depthOk d ((.sym ("(" : Str) :: (ts ++ [.sym (")" : Str)])) ++ rest)
    simpa only [List.append_assoc, List.cons_append, List.nil_append] using this
theorem deep_op (o : Op) {d : Int} {ts : List Tk} (h : depthOk d ts) : depthOk d (o.tk :: ts) := by
  refine d_flat ?_ ?_ h
  · cases o <;> decide +kernel
  · cases o <;> decide +kernel
theorem deep_less {k j : Int} {ts : List Tk} (h : Deep k ts) (hj : j ≤ k) : Deep j ts := fun d rest hd hr => h d rest (by omega) hr
theorem deep_show : ∀ {e : Ex}, Deep (17 - e.ops) (toks e)
  | .num n => fun d rest _ hr => by
    show depthOk d (numTk n ++ rest)
    unfold numTk
    split
    · exact d_flat rfl rfl hr
    · exact d_sym (by decide +kernel) (by decide +kernel) (d_flat rfl rfl hr)
  | .latest m ms => deep_less deep_sel (by show (17 : Int) - (0 : Nat) ≤ 18; decide)
  | .over w m ms s => fun d rest hd hr => by
    have hd : d ≤ 17 - (0 : Nat) := hd
    have h1 : depthOk (d + 1) (.sym ("[" : Str) :: .num s :: .sym ("]" : Str) :: .sym (")" : Str) :: rest) := d_sym (by decide +kernel) (by decide +kernel) (d_flat rfl rfl (d_sym (by decide +kernel) (by decide +kernel) (d_close (by rw [Int.add_sub_cancel]; exact hr))))
    have h2 := deep_sel (m := m) (ms := ms) (d + 1) _ (by omega) h1
    have := d_word (s := w.str) (d_open (d := d) (by omega) h2)
    show depthOk d ((.word w.str :: .sym ("(" : Str) :: (selTk m ms ++ [.sym ("[" : Str), .num s, .sym ("]" : Str), .sym (")" : Str)])) ++ rest)
    simpa only [List.append_assoc, List.cons_append, List.nil_append] using this
  | .bin o l r => fun d rest hd hr => by
    have hd : d ≤ 17 - ((l.ops + r.ops + 1 : Nat) : Int) := hd
    have ihl := deep_show (e := l)
    have ihr := deep_show (e := r)
    have h1 := deep_brk (b := decide (r.lev < o.lev + 1)) (k := d) (by omega) (deep_less ihr (by omega)) d rest (Int.le_refl _) hr
    have h2 := deep_op o h1
    have := deep_brk (b := decide (l.lev < o.lev)) (k := d) (by omega) (deep_less ihl (by omega)) d _ (Int.le_refl _) h2
    show depthOk d ((brkTk (decide (l.lev < o.lev)) (toks l) ++ o.tk :: brkTk (decide (r.lev < o.lev + 1)) (toks r)) ++ rest)
    simpa only [List.append_assoc, List.cons_append, List.nil_append] using this
  | .agg w ns i => fun d rest hd hr => by
    have hd : d ≤ 17 - ((i.ops + 1 : Nat) : Int) := hd
    have ih := deep_show (e := i)
    have h1 := ih (d + 1) (.sym (")" : Str) :: rest) (by omega) (d_close (by rw [Int.add_sub_cancel]; exact hr))
    have h2 := d_open (d := d) (by omega) h1
    cases ns with
    | nil =>
      have := d_word (s := w.str) h2
      show depthOk d ((.word w.str :: .sym ("(" : Str) :: (toks i ++ [.sym (")" : Str)])) ++ rest)
      simpa only [List.append_assoc, List.cons_append, List.nil_append] using this
    | cons a ns =>
      have hs : Deep 20 (sepTk ((a :: ns).map fun n => [Tk.word n])) := deep_sep _ fun x hx => by
        obtain ⟨v, _, rfl⟩ := List.mem_map.mp hx
        exact fun d rest _ h => d_word h
      have h3 := hs (d + 1) (.sym (")" : Str) :: .sym ("(" : Str) :: (toks i ++ .sym (")" : Str) :: rest)) (by omega) (d_close (by rw [Int.add_sub_cancel]; exact h2))
      have := d_word (s := w.str) (d_word (s := "by") (d_open (d := d) (by omega) h3))
      show depthOk d ((.word w.str :: .word ("by" : Str) :: .sym ("(" : Str) :: (sepTk ((a :: ns).map fun n => [Tk.word n]) ++ .sym (")" : Str) :: .sym ("(" : Str) :: (toks i ++ [.sym (")" : Str)]))) ++ rest)
      simpa only [List.append_assoc, List.cons_append, List.nil_append] using this
/-- THE PLAIN LAW: the normal form, read, is the expression -/
theorem parsed {x : Ex} (h : Good x) : Parsed x := by
  have ho := h.ops
  have hs := h.sel
  obtain ⟨md, co', coD, e1, hr, hm, ha⟩ := reads_all h.ok h.kd co0 ⟨by show 0 + 3 * x.ops ≤ 900; omega, by show 0 + x.sel ≤ 900; omega⟩ trivial
  have hc := ha.comb 0 (Nat.zero_le _)
  have hc : comb 0 coD.stack e1 coD.ops = some ([], x, 0 + x.ops) := hc
  have hsel : coD.sel = 0 + x.sel := ha.sel
  have hd := deep_show (e := x) 0 [] (by omega) trivial
  rw [List.append_nil] at hd
  refine ⟨toks x, md, co', coD, e1, 0 + x.ops, lex_show h.ok, hr, ?_, ha.made, ?_, hc, by omega, by omega, hd⟩
  · rcases hm with ⟨a, b⟩ | ⟨wd, a, b⟩
    · exact .inl ⟨a, b⟩
    · exact .inr ⟨wd, a, b⟩
  · obtain ⟨pre, hp, hall⟩ := ha.pre
    rw [hp]
    show AllInf (pre ++ [])
    rw [List.append_nil]
    exact hall
end Wf


set_option Elab.async false
set_option linter.all false
set_option maxRecDepth 100000
set_option maxHeartbeats 0
namespace Wf
open PySem PySem.Spec PyProof.Rows L2
theorem ofI {mg : Str → Option Value} {x : Str} {i : Int} (h : ∃ t, mg x = some (.int i t)) : ∃ u, mg x = some u ∧ RelV (.int i) u := by
  obtain ⟨t, e⟩ := h
  exact ⟨_, e, t, rfl⟩
theorem ofS {mg : Str → Option Value} {x : Str} {i : Str} (h : ∃ t, mg x = some (.str i t)) : ∃ u, mg x = some u ∧ RelV (.str i) u := by
  obtain ⟨t, e⟩ := h
  exact ⟨_, e, t, rfl⟩
theorem txt_of {w : World} {K : PySem.W.Frag} {h : Heap} {mg : Str → Option Value} (X : K.In h) (G : h.Ns mainGlobals mg) (c : He.SaysX hFa hFn hTabs [] hEx w h K) : Txt w K mg := by
  have hm := c.more
  obtain ⟨hx0, hm⟩ := He.ba hm
  obtain ⟨hx1, hm⟩ := He.ba hm
  obtain ⟨hx2, hm⟩ := He.ba hm
  obtain ⟨hx3, hm⟩ := He.ba hm
  obtain ⟨hx4, hm⟩ := He.ba hm
  obtain ⟨hx5, hm⟩ := He.ba hm
  obtain ⟨hx6, hm⟩ := He.ba hm
  have hx7 := hm
  exact {
    d_kind_of_binary := c.t.d.def_ 0 (d := hd_kind_of_binary) rfl
    d_at_operand := c.t.d.def_ 1 (d := hd_at_operand) rfl
    d_at_negative := c.t.d.def_ 2 (d := hd_at_negative) rfl
    d_at_done := c.t.d.def_ 3 (d := hd_at_done) rfl
    d_at_named := c.t.d.def_ 4 (d := hd_at_named) rfl
    d_at_over_metric := c.t.d.def_ 5 (d := hd_at_over_metric) rfl
    d_at_over_named := c.t.d.def_ 6 (d := hd_at_over_named) rfl
    d_at_label := c.t.d.def_ 7 (d := hd_at_label) rfl
    d_at_test := c.t.d.def_ 8 (d := hd_at_test) rfl
    d_at_not_in := c.t.d.def_ 9 (d := hd_at_not_in) rfl
    d_at_value := c.t.d.def_ 10 (d := hd_at_value) rfl
    d_at_list_open := c.t.d.def_ 11 (d := hd_at_list_open) rfl
    d_at_item := c.t.d.def_ 12 (d := hd_at_item) rfl
    d_at_item_end := c.t.d.def_ 13 (d := hd_at_item_end) rfl
    d_at_matched := c.t.d.def_ 14 (d := hd_at_matched) rfl
    d_at_range_open := c.t.d.def_ 15 (d := hd_at_range_open) rfl
    d_at_span := c.t.d.def_ 16 (d := hd_at_span) rfl
    d_at_span_end := c.t.d.def_ 17 (d := hd_at_span_end) rfl
    d_at_over_close := c.t.d.def_ 18 (d := hd_at_over_close) rfl
    d_at_by_open := c.t.d.def_ 19 (d := hd_at_by_open) rfl
    d_at_by_name := c.t.d.def_ 20 (d := hd_at_by_name) rfl
    d_at_by_end := c.t.d.def_ 21 (d := hd_at_by_end) rfl
    d_at_aggregate_open := c.t.d.def_ 22 (d := hd_at_aggregate_open) rfl
    d_take := c.t.d.def_ 23 (d := hd_take) rfl
    d_read_word := c.t.d.def_ 24 (d := hd_read_word) rfl
    d_read_number := c.t.d.def_ 25 (d := hd_read_number) rfl
    d_read_string := c.t.d.def_ 26 (d := hd_read_string) rfl
    d_read_symbol := c.t.d.def_ 27 (d := hd_read_symbol) rfl
    d_take_token := c.t.d.def_ 28 (d := hd_take_token) rfl
    d_scan := c.t.d.def_ 29 (d := hd_scan) rfl
    d_machine_of := c.t.d.def_ 30 (d := hd_machine_of) rfl
    d_check_depth := c.t.d.def_ 31 (d := hd_check_depth) rfl
    d_check_limits := c.t.d.def_ 32 (d := hd_check_limits) rfl
    d_parse := c.t.d.def_ 33 (d := hd_parse) rfl
    d_show_matcher := c.t.d.def_ 34 (d := hd_show_matcher) rfl
    d_show_selector := c.t.d.def_ 35 (d := hd_show_selector) rfl
    d_show_aggregate := c.t.d.def_ 36 (d := hd_show_aggregate) rfl
    d_show_side := c.t.d.def_ 37 (d := hd_show_side) rfl
    d_show := c.t.d.def_ 38 (d := hd_show) rfl
    d__law_cell := c.t.d.def_ 39 (d := hd__law_cell) rfl
    d__law_draws := c.t.d.def_ 40 (d := hd__law_draws) rfl
    d__law_name := c.t.d.def_ 41 (d := hd__law_name) rfl
    d__law_worth := c.t.d.def_ 42 (d := hd__law_worth) rfl
    d__law_names := c.t.d.def_ 43 (d := hd__law_names) rfl
    d__law_worths := c.t.d.def_ 44 (d := hd__law_worths) rfl
    d__law_number := c.t.d.def_ 45 (d := hd__law_number) rfl
    d__law_kind := c.t.d.def_ 46 (d := hd__law_kind) rfl
    d__law_leaf := c.t.d.def_ 47 (d := hd__law_leaf) rfl
    d__law_sign := c.t.d.def_ 48 (d := hd__law_sign) rfl
    d__law_expression := c.t.d.def_ 49 (d := hd__law_expression) rfl
    d__law_of_script := c.t.d.def_ 50 (d := hd__law_of_script) rfl
    d__law_strength := c.t.d.def_ 51 (d := hd__law_strength) rfl
    d__law_matcher := c.t.d.def_ 52 (d := hd__law_matcher) rfl
    d__law_selector := c.t.d.def_ 53 (d := hd__law_selector) rfl
    d__law_moved := c.t.d.def_ 54 (d := hd__law_moved) rfl
    d__law_side := c.t.d.def_ 55 (d := hd__law_side) rfl
    d__law_shown := c.t.d.def_ 56 (d := hd__law_shown) rfl
    d_law := c.t.d.def_ 57 (d := hd_law) rfl
    d_M_turn := c.t.d.def_ 58 (d := hd_M_turn) rfl
    d_M_finish_operand := c.t.d.def_ 59 (d := hd_M_finish_operand) rfl
    d_M_begin_selector := c.t.d.def_ 60 (d := hd_M_begin_selector) rfl
    d_M_finish_selector := c.t.d.def_ 61 (d := hd_M_finish_selector) rfl
    d_M_finish_over := c.t.d.def_ 62 (d := hd_M_finish_over) rfl
    d_M_add_matcher := c.t.d.def_ 63 (d := hd_M_add_matcher) rfl
    d_M_judge := c.t.d.def_ 64 (d := hd_M_judge) rfl
    d_M_combine := c.t.d.def_ 65 (d := hd_M_combine) rfl
    d_M_close := c.t.d.def_ 66 (d := hd_M_close) rfl
    d_M_open_aggregate := c.t.d.def_ 67 (d := hd_M_open_aggregate) rfl
    d_M_end_named := c.t.d.def_ 68 (d := hd_M_end_named) rfl
    d_M_has_open := c.t.d.def_ 69 (d := hd_M_has_open) rfl
    d_M_can_end := c.t.d.def_ 70 (d := hd_M_can_end) rfl
    d_M___init__ := c.t.d.def_ 71 (d := hd_M___init__) rfl
    g_kind_of_binary := He.glo_ok X G (c.t.d.fact 0 (f := .glo "kind_of_binary") rfl)
    g_at_operand := He.glo_ok X G (c.t.d.fact 1 (f := .glo "at_operand") rfl)
    g_at_negative := He.glo_ok X G (c.t.d.fact 2 (f := .glo "at_negative") rfl)
    g_at_done := He.glo_ok X G (c.t.d.fact 3 (f := .glo "at_done") rfl)
    g_at_named := He.glo_ok X G (c.t.d.fact 4 (f := .glo "at_named") rfl)
    g_at_over_metric := He.glo_ok X G (c.t.d.fact 5 (f := .glo "at_over_metric") rfl)
    g_at_over_named := He.glo_ok X G (c.t.d.fact 6 (f := .glo "at_over_named") rfl)
    g_at_label := He.glo_ok X G (c.t.d.fact 7 (f := .glo "at_label") rfl)
    g_at_test := He.glo_ok X G (c.t.d.fact 8 (f := .glo "at_test") rfl)
    g_at_not_in := He.glo_ok X G (c.t.d.fact 9 (f := .glo "at_not_in") rfl)
    g_at_value := He.glo_ok X G (c.t.d.fact 10 (f := .glo "at_value") rfl)
    g_at_list_open := He.glo_ok X G (c.t.d.fact 11 (f := .glo "at_list_open") rfl)
    g_at_item := He.glo_ok X G (c.t.d.fact 12 (f := .glo "at_item") rfl)
    g_at_item_end := He.glo_ok X G (c.t.d.fact 13 (f := .glo "at_item_end") rfl)
    g_at_matched := He.glo_ok X G (c.t.d.fact 14 (f := .glo "at_matched") rfl)
    g_at_range_open := He.glo_ok X G (c.t.d.fact 15 (f := .glo "at_range_open") rfl)
    g_at_span := He.glo_ok X G (c.t.d.fact 16 (f := .glo "at_span") rfl)
    g_at_span_end := He.glo_ok X G (c.t.d.fact 17 (f := .glo "at_span_end") rfl)
    g_at_over_close := He.glo_ok X G (c.t.d.fact 18 (f := .glo "at_over_close") rfl)
    g_at_by_open := He.glo_ok X G (c.t.d.fact 19 (f := .glo "at_by_open") rfl)
    g_at_by_name := He.glo_ok X G (c.t.d.fact 20 (f := .glo "at_by_name") rfl)
    g_at_by_end := He.glo_ok X G (c.t.d.fact 21 (f := .glo "at_by_end") rfl)
    g_at_aggregate_open := He.glo_ok X G (c.t.d.fact 22 (f := .glo "at_aggregate_open") rfl)
    g_take := He.glo_ok X G (c.t.d.fact 23 (f := .glo "take") rfl)
    g_read_word := He.glo_ok X G (c.t.d.fact 24 (f := .glo "read_word") rfl)
    g_read_number := He.glo_ok X G (c.t.d.fact 25 (f := .glo "read_number") rfl)
    g_read_string := He.glo_ok X G (c.t.d.fact 26 (f := .glo "read_string") rfl)
    g_read_symbol := He.glo_ok X G (c.t.d.fact 27 (f := .glo "read_symbol") rfl)
    g_take_token := He.glo_ok X G (c.t.d.fact 28 (f := .glo "take_token") rfl)
    g_scan := He.glo_ok X G (c.t.d.fact 29 (f := .glo "scan") rfl)
    g_machine_of := He.glo_ok X G (c.t.d.fact 30 (f := .glo "machine_of") rfl)
    g_check_depth := He.glo_ok X G (c.t.d.fact 31 (f := .glo "check_depth") rfl)
    g_check_limits := He.glo_ok X G (c.t.d.fact 32 (f := .glo "check_limits") rfl)
    g_parse := He.glo_ok X G (c.t.d.fact 33 (f := .glo "parse") rfl)
    g_show_matcher := He.glo_ok X G (c.t.d.fact 34 (f := .glo "show_matcher") rfl)
    g_show_selector := He.glo_ok X G (c.t.d.fact 35 (f := .glo "show_selector") rfl)
    g_show_aggregate := He.glo_ok X G (c.t.d.fact 36 (f := .glo "show_aggregate") rfl)
    g_show_side := He.glo_ok X G (c.t.d.fact 37 (f := .glo "show_side") rfl)
    g_show := He.glo_ok X G (c.t.d.fact 38 (f := .glo "show") rfl)
    g__law_cell := He.glo_ok X G (c.t.d.fact 39 (f := .glo "_law_cell") rfl)
    g__law_draws := He.glo_ok X G (c.t.d.fact 40 (f := .glo "_law_draws") rfl)
    g__law_name := He.glo_ok X G (c.t.d.fact 41 (f := .glo "_law_name") rfl)
    g__law_worth := He.glo_ok X G (c.t.d.fact 42 (f := .glo "_law_worth") rfl)
    g__law_names := He.glo_ok X G (c.t.d.fact 43 (f := .glo "_law_names") rfl)
    g__law_worths := He.glo_ok X G (c.t.d.fact 44 (f := .glo "_law_worths") rfl)
    g__law_number := He.glo_ok X G (c.t.d.fact 45 (f := .glo "_law_number") rfl)
    g__law_kind := He.glo_ok X G (c.t.d.fact 46 (f := .glo "_law_kind") rfl)
    g__law_leaf := He.glo_ok X G (c.t.d.fact 47 (f := .glo "_law_leaf") rfl)
    g__law_sign := He.glo_ok X G (c.t.d.fact 48 (f := .glo "_law_sign") rfl)
    g__law_expression := He.glo_ok X G (c.t.d.fact 49 (f := .glo "_law_expression") rfl)
    g__law_of_script := He.glo_ok X G (c.t.d.fact 50 (f := .glo "_law_of_script") rfl)
    g__law_strength := He.glo_ok X G (c.t.d.fact 51 (f := .glo "_law_strength") rfl)
    g__law_matcher := He.glo_ok X G (c.t.d.fact 52 (f := .glo "_law_matcher") rfl)
    g__law_selector := He.glo_ok X G (c.t.d.fact 53 (f := .glo "_law_selector") rfl)
    g__law_moved := He.glo_ok X G (c.t.d.fact 54 (f := .glo "_law_moved") rfl)
    g__law_side := He.glo_ok X G (c.t.d.fact 55 (f := .glo "_law_side") rfl)
    g__law_shown := He.glo_ok X G (c.t.d.fact 56 (f := .glo "_law_shown") rfl)
    g_law := He.glo_ok X G (c.t.d.fact 57 (f := .glo "law") rfl)
    g_Machine := He.glo_ok X G (c.t.d.fact 58 (f := .glo "Machine") rfl)
    g_ARITHMETIC := He.glo_ok X G (c.t.d.fact 59 (f := .glo "ARITHMETIC") rfl)
    g_JOINS := He.glo_ok X G (c.t.d.fact 60 (f := .glo "JOINS") rfl)
    g_OVER_WORDS := He.glo_ok X G (c.t.d.fact 61 (f := .glo "OVER_WORDS") rfl)
    g_AGGREGATE_WORDS := He.glo_ok X G (c.t.d.fact 62 (f := .glo "AGGREGATE_WORDS") rfl)
    g_JOIN_WORDS := He.glo_ok X G (c.t.d.fact 63 (f := .glo "JOIN_WORDS") rfl)
    g_PAIRS := He.glo_ok X G (c.t.d.fact 64 (f := .glo "PAIRS") rfl)
    g_STRENGTHS := He.glo_ok X G (c.t.d.fact 65 (f := .glo "STRENGTHS") rfl)
    g_ACTIONS := He.glo_ok X G (c.t.d.fact 66 (f := .glo "ACTIONS") rfl)
    z_len := He.free_ok X G (c.t.d.fact 67 (f := .free "len") rfl)
    z_int := He.free_ok X G (c.t.d.fact 68 (f := .free "int") rfl)
    z_str := He.free_ok X G (c.t.d.fact 69 (f := .free "str") rfl)
    z_tuple := He.free_ok X G (c.t.d.fact 70 (f := .free "tuple") rfl)
    z_list := He.free_ok X G (c.t.d.fact 71 (f := .free "list") rfl)
    z_range := He.free_ok X G (c.t.d.fact 72 (f := .free "range") rfl)
    z_enumerate := He.free_ok X G (c.t.d.fact 73 (f := .free "enumerate") rfl)
    c_MOST := ofI (He.int_ok X G (c.t.d.fact 74 (f := .int "MOST" 6) rfl))
    c_MOST_CHARS := ofI (He.int_ok X G (c.t.d.fact 75 (f := .int "MOST_CHARS" 300) rfl))
    c_MOST_WORD := ofI (He.int_ok X G (c.t.d.fact 76 (f := .int "MOST_WORD" 20) rfl))
    c_NUMBER_BOUND := ofI (He.int_ok X G (c.t.d.fact 77 (f := .int "NUMBER_BOUND" 1000000000000000) rfl))
    c_MOST_OPEN := ofI (He.int_ok X G (c.t.d.fact 78 (f := .int "MOST_OPEN" 20) rfl))
    c_MOST_SELECTORS := ofI (He.int_ok X G (c.t.d.fact 79 (f := .int "MOST_SELECTORS" 6) rfl))
    c_MOST_OPERATORS := ofI (He.int_ok X G (c.t.d.fact 80 (f := .int "MOST_OPERATORS" 8) rfl))
    c_LONGEST := ofI (He.int_ok X G (c.t.d.fact 81 (f := .int "LONGEST" 1000) rfl))
    c_LETTERS := ofS (He.str_ok X G (c.t.d.fact 82 (f := .str "LETTERS" "abcdefghijklmnopqrstuvwxyz") rfl))
    c_WORD_CHARS := ofS (He.str_ok X G (c.t.d.fact 83 (f := .str "WORD_CHARS" "abcdefghijklmnopqrstuvwxyz0123456789_") rfl))
    c_DIGITS := ofS (He.str_ok X G (c.t.d.fact 84 (f := .str "DIGITS" "0123456789") rfl))
    c_BLANKS := ofS (He.str_ok X G (c.t.d.fact 85 (f := .str "BLANKS" " \n\t") rfl))
    c_SYMBOLS := ofS (He.str_ok X G (c.t.d.fact 86 (f := .str "SYMBOLS" "(){}[],=<>+-*") rfl))
    cl := He.cls_ok (c.t.d.fact 87 (f := .cls "Machine") rfl)
    n_mode := He.noat_ok (c.t.d.fact 88 (f := .noat "Machine" "mode") rfl)
    n_first := He.noat_ok (c.t.d.fact 89 (f := .noat "Machine" "first") rfl)
    n_stack := He.noat_ok (c.t.d.fact 90 (f := .noat "Machine" "stack") rfl)
    n_made := He.noat_ok (c.t.d.fact 91 (f := .noat "Machine" "made") rfl)
    n_word := He.noat_ok (c.t.d.fact 92 (f := .noat "Machine" "word") rfl)
    n_place := He.noat_ok (c.t.d.fact 93 (f := .noat "Machine" "place") rfl)
    n_over := He.noat_ok (c.t.d.fact 94 (f := .noat "Machine" "over") rfl)
    n_metric := He.noat_ok (c.t.d.fact 95 (f := .noat "Machine" "metric") rfl)
    n_matchers := He.noat_ok (c.t.d.fact 96 (f := .noat "Machine" "matchers") rfl)
    n_label := He.noat_ok (c.t.d.fact 97 (f := .noat "Machine" "label") rfl)
    n_inside := He.noat_ok (c.t.d.fact 98 (f := .noat "Machine" "inside") rfl)
    n_found := He.noat_ok (c.t.d.fact 99 (f := .noat "Machine" "found") rfl)
    n_span := He.noat_ok (c.t.d.fact 100 (f := .noat "Machine" "span") rfl)
    n_spans := He.noat_ok (c.t.d.fact 101 (f := .noat "Machine" "spans") rfl)
    n_selectors := He.noat_ok (c.t.d.fact 102 (f := .noat "Machine" "selectors") rfl)
    n_operators := He.noat_ok (c.t.d.fact 103 (f := .noat "Machine" "operators") rfl)
    n_many := He.noat_ok (c.t.d.fact 104 (f := .noat "Machine" "many") rfl)
    n_unkind := He.noat_ok (c.t.d.fact 105 (f := .noat "Machine" "unkind") rfl)
    m_turn := He.meth_ok (c.t.d.fact 106 (f := .meth "Machine" "turn") rfl)
    m_finish_operand := He.meth_ok (c.t.d.fact 107 (f := .meth "Machine" "finish_operand") rfl)
    m_begin_selector := He.meth_ok (c.t.d.fact 108 (f := .meth "Machine" "begin_selector") rfl)
    m_finish_selector := He.meth_ok (c.t.d.fact 109 (f := .meth "Machine" "finish_selector") rfl)
    m_finish_over := He.meth_ok (c.t.d.fact 110 (f := .meth "Machine" "finish_over") rfl)
    m_add_matcher := He.meth_ok (c.t.d.fact 111 (f := .meth "Machine" "add_matcher") rfl)
    m_judge := He.meth_ok (c.t.d.fact 112 (f := .meth "Machine" "judge") rfl)
    m_combine := He.meth_ok (c.t.d.fact 113 (f := .meth "Machine" "combine") rfl)
    m_close := He.meth_ok (c.t.d.fact 114 (f := .meth "Machine" "close") rfl)
    m_open_aggregate := He.meth_ok (c.t.d.fact 115 (f := .meth "Machine" "open_aggregate") rfl)
    m_end_named := He.meth_ok (c.t.d.fact 116 (f := .meth "Machine" "end_named") rfl)
    m_has_open := He.meth_ok (c.t.d.fact 117 (f := .meth "Machine" "has_open") rfl)
    m_can_end := He.meth_ok (c.t.d.fact 118 (f := .meth "Machine" "can_end") rfl)
    mk_ := He.mkr_ok (c.t.d.fact 119 (f := .mkr "Machine") rfl)
    t_ARITHMETIC := fun H => He.tupB_ok hx0 H
    t_JOINS := fun H => He.tupB_ok hx1 H
    t_OVER_WORDS := fun H => He.tupB_ok hx2 H
    t_AGGREGATE_WORDS := fun H => He.tupB_ok hx3 H
    t_JOIN_WORDS := fun H => He.tupB_ok hx4 H
    t_PAIRS := fun H => He.tupB_ok hx5 H
    kd_STRENGTHS := c.t.tab 0 rfl
    kd_ACTIONS := c.t.tab 1 rfl
    v_STRENGTHS := fun q hq => He.valsB_ok hx6 (List.mem_map_of_mem (f := fun q : Str × Int => (q.1, He.Dv.int q.2)) hq)
    v_ACTIONS := fun q hq => He.valsB_ok hx7 (List.mem_map_of_mem (f := fun q : Str × Str => (q.1, He.Dv.glo q.2)) hq) }
end Wf


set_option Elab.async false
set_option linter.all false
set_option maxRecDepth 100000
set_option maxHeartbeats 0
namespace Wf
open PySem PySem.Spec PyProof.Rows L2
theorem law_fn {P : Program} {w : World} {K : PySem.W.Frag} {h : Heap} {mg : Str → Option Value} {f : Addr} (X : K.In h) (G : h.Ns mainGlobals mg) (hf : mg ("law" : Str) = some (.ref f)) (c : He.SaysX hFa hFn hTabs [] hEx w h K) :
    ∃ fd : FuncData, (∀ (s : Shared) (v : Value), BindsTo s fd ⟨[v], []⟩ [("_law_script", v)]) ∧ ∀ base : Heap, K.In base → base.Ns mainGlobals mg → FnOk P w K mg base CX0 20 f fd ["_law_script"] (spLaw K) := by
  have T := txt_of X G c
  obtain ⟨fd, F⟩ := T.d_law
  have e := hf.symm.trans T.g_law
  cases e
  have b := FunD.bindsA (ps := ["_law_script"]) F fun _ _ _ _ _ _ us hl => match us, hl with | [_], _ => rfl
  exact ⟨fd, fun s v => b s [v] rfl, fun base _ _ => f_law (fun x hx _ => parsed hx) T F⟩
end Wf
open PySem PySem.W PySem.Calls PyProof.Rows
theorem PySem.Challenge.cw_watchfloor_k89_language_whole_shown_is_p_holds : PySem.Challenge.rw_watchfloor_k89_language_whole_shown_is_p.Holds := by
  refine Wf.hHead ?_
  refine L2.walk_ofE (l := PySem.Challenge.rw_watchfloor_k89_language_whole_shown_is_p) (n := 63) (k := 20) (x := "_law_script") (CX := L2.CX0) rfl (by decide) Wf.hTopD ⟨rfl, by decide, by decide⟩ ?F (fun _ _ _ _ z => z)
  intro w mg fa h Y G hmg0
  obtain ⟨K, KX, c⟩ := Y
  have hmg : mg ("law" : PySem.Str) = some (.ref fa) := by
    rw [← Wf.hTopN]
    exact hmg0
  obtain ⟨fd, hb, hF⟩ := Wf.law_fn (P := (PySem.Challenge.rw_watchfloor_k89_language_whole_shown_is_p).prog) (w := w) KX G hmg c
  exact ⟨K, fd, Wf.spLaw K, KX, hb, fun H a ns hl _ hS => ⟨a, ns, rfl, hS, hl, fun _ => rfl⟩, hF⟩
