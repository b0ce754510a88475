import PyProof.Rows.All
import Wide.All
import OpenK.AllK
import Wide.FinOn
import KE.KStateDown
import Lean
import HandS.ForMost
import HandS.More
import HandS.Defaults
import HandS.Head0
import HandS.Head1
import HandS.Head2
import HandS.HeadEnd
import HandS.HeadHook1
import HandS.HeadHook2
import HandS.Style
import HandS.IsInst
import HandS.TupAny
import KE.KeyNested
import KE.KDictKeyed
import KE.KDictDisplayH
import KE.KDictLaw
import KE.GoesMore
import KE.GoesEnum
import KE.GoesEnumKw
import HandS.SetFor
import HandS.Strs
import HandS.SortInts
import HandS.Text
import KE.KDictZip
import HandS.ListItems
import HandS.DictTup
import KE.KDictList
import HandS.DictComp
import HandS.Comp
import HandS.Star
import HandS.TupMul
import PyProof.InstSpecial
import OpenK.KOps
import PySem.Challenge.RW_tallyhouse_k89_whole_growth_of_made_coun
section
set_option Elab.async false
set_option linter.all false
set_option maxRecDepth 100000
set_option maxHeartbeats 0
namespace Tly
open PySem PySem.Spec PyProof.Rows L2
def top (i : Nat) : Stmt := PySem.Challenge.pw_tallyhouse_k89_whole_growth_of_made_coun.main.body.getD i (.Pass ⟨0, 0, 0, 0⟩)
def clsBody : Stmt → List Stmt
  | .ClassDef _ _ _ b _ _ _ _ _ _ _ => b
  | _ => []
def tallyTop (j : Nat) : Stmt := (clsBody (top 40)).getD j (.Pass ⟨0, 0, 0, 0⟩)
abbrev s_product_of : Stmt := top 8
abbrev s_columns_of : Stmt := top 9
abbrev s_led_on : Stmt := top 10
abbrev s_table_product : Stmt := top 11
abbrev s_still_table : Stmt := top 12
abbrev s_turned_table : Stmt := top 13
abbrev s_times_column : Stmt := top 14
abbrev s_is_integer_tickets : Stmt := top 17
abbrev s_are_integers : Stmt := top 19
abbrev s_are_digits : Stmt := top 20
abbrev s_is_ticket : Stmt := top 21
abbrev s_is_table : Stmt := top 30
abbrev s_are_tables : Stmt := top 31
abbrev s_Tally_init : Stmt := tallyTop 0
abbrev s_Tally_len : Stmt := tallyTop 3
abbrev s_Tally_step : Stmt := tallyTop 6
abbrev s_Tally_row : Stmt := tallyTop 7
abbrev s_Tally_table : Stmt := tallyTop 9
abbrev s_nexts : Stmt := top 42
abbrev s_reached_from : Stmt := top 43
abbrev s_useful_states : Stmt := top 44
abbrev s_steps_of : Stmt := top 46
abbrev s_pair_steps : Stmt := top 47
abbrev s_doubling_loop : Stmt := top 48
abbrev s_comes_back : Stmt := top 49
abbrev s_doubling_states : Stmt := top 50
abbrev s_does_double : Stmt := top 51
abbrev s_text_between : Stmt := top 53
abbrev s_doubling_paper : Stmt := top 54
abbrev s_turn_of : Stmt := top 55
abbrev s_steps_within : Stmt := top 56
abbrev s_rise_loop : Stmt := top 57
abbrev s_triples : Stmt := top 58
abbrev s_rises : Stmt := top 59
abbrev s_least_levels : Stmt := top 60
abbrev s_degree : Stmt := top 61
abbrev s_is_integer_growthpapers : Stmt := top 69
abbrev s_few_ways : Stmt := top 71
abbrev s_entries : Stmt := top 72
abbrev s_is_state : Stmt := top 73
abbrev s_starts_of : Stmt := top 74
abbrev s_goals_of : Stmt := top 75
abbrev s_chain_to : Stmt := top 76
abbrev s_power_paper : Stmt := top 77
abbrev s_judge_growth : Stmt := top 78
abbrev s_leads : Stmt := top 79
abbrev s_doubles_hold : Stmt := top 80
abbrev s_levels_hold : Stmt := top 81
abbrev s_piece_holds : Stmt := top 82
abbrev s_power_holds : Stmt := top 83
abbrev s_growth_holds : Stmt := top 84
abbrev s_grows_more : Stmt := top 85
abbrev s_need_same_digits : Stmt := top 87
abbrev s_beside : Stmt := top 88
abbrev s_without_bridge : Stmt := top 89
abbrev s_added : Stmt := top 90
abbrev s_times : Stmt := top 91
abbrev s_row_products : Stmt := top 92
abbrev s_table_products : Stmt := top 93
abbrev s_multiplied : Stmt := top 94
abbrev s_met : Stmt := top 95
abbrev s_turned : Stmt := top 96
abbrev s_ahead : Stmt := top 97
abbrev s_behind : Stmt := top 98
abbrev s_law_deck : Stmt := top 100
abbrev s_law_draw : Stmt := top 101
abbrev s_law_pick : Stmt := top 102
abbrev s_law_count : Stmt := top 103
abbrev s_law_code : Stmt := top 104
abbrev s_law_kind : Stmt := top 105
abbrev s_law_added_right : Stmt := top 106
abbrev s_law_product_right : Stmt := top 107
abbrev s_law_met_right : Stmt := top 108
abbrev s_law_cut_right : Stmt := top 109
abbrev s_law : Stmt := top 110
def d_product_of : He.DefD := ⟨("product_of", none), "product_of", "product_of", defArgs s_product_of, defBody s_product_of, defScope s_product_of, [], []⟩
def d_columns_of : He.DefD := ⟨("columns_of", none), "columns_of", "columns_of", defArgs s_columns_of, defBody s_columns_of, defScope s_columns_of, [], []⟩
def d_led_on : He.DefD := ⟨("led_on", none), "led_on", "led_on", defArgs s_led_on, defBody s_led_on, defScope s_led_on, [], []⟩
def d_table_product : He.DefD := ⟨("table_product", none), "table_product", "table_product", defArgs s_table_product, defBody s_table_product, defScope s_table_product, [], []⟩
def d_still_table : He.DefD := ⟨("still_table", none), "still_table", "still_table", defArgs s_still_table, defBody s_still_table, defScope s_still_table, [], []⟩
def d_turned_table : He.DefD := ⟨("turned_table", none), "turned_table", "turned_table", defArgs s_turned_table, defBody s_turned_table, defScope s_turned_table, [], []⟩
def d_times_column : He.DefD := ⟨("times_column", none), "times_column", "times_column", defArgs s_times_column, defBody s_times_column, defScope s_times_column, [], []⟩
def d_is_integer_tickets : He.DefD := ⟨("is_integer_tickets", none), "is_integer", "is_integer", defArgs s_is_integer_tickets, defBody s_is_integer_tickets, defScope s_is_integer_tickets, [], []⟩
def d_are_integers : He.DefD := ⟨("are_integers", none), "are_integers", "are_integers", defArgs s_are_integers, defBody s_are_integers, defScope s_are_integers, [], []⟩
def d_are_digits : He.DefD := ⟨("are_digits", none), "are_digits", "are_digits", defArgs s_are_digits, defBody s_are_digits, defScope s_are_digits, [], []⟩
def d_is_ticket : He.DefD := ⟨("is_ticket", none), "is_ticket", "is_ticket", defArgs s_is_ticket, defBody s_is_ticket, defScope s_is_ticket, [], []⟩
def d_is_table : He.DefD := ⟨("is_table", none), "is_table", "is_table", defArgs s_is_table, defBody s_is_table, defScope s_is_table, [], []⟩
def d_are_tables : He.DefD := ⟨("are_tables", none), "are_tables", "are_tables", defArgs s_are_tables, defBody s_are_tables, defScope s_are_tables, [], []⟩
def d_Tally_init : He.DefD := ⟨("Tally", some "__init__"), "__init__", "Tally.__init__", defArgs s_Tally_init, defBody s_Tally_init, defScope s_Tally_init, [], []⟩
def d_Tally_len : He.DefD := ⟨("Tally", some "__len__"), "__len__", "Tally.__len__", defArgs s_Tally_len, defBody s_Tally_len, defScope s_Tally_len, [], []⟩
def d_Tally_step : He.DefD := ⟨("Tally", some "step"), "step", "Tally.step", defArgs s_Tally_step, defBody s_Tally_step, defScope s_Tally_step, [], []⟩
def d_Tally_row : He.DefD := ⟨("Tally", some "row"), "row", "Tally.row", defArgs s_Tally_row, defBody s_Tally_row, defScope s_Tally_row, [], []⟩
def d_Tally_table : He.DefD := ⟨("Tally", some "table"), "table", "Tally.table", defArgs s_Tally_table, defBody s_Tally_table, defScope s_Tally_table, [], []⟩
def d_nexts : He.DefD := ⟨("nexts", none), "nexts", "nexts", defArgs s_nexts, defBody s_nexts, defScope s_nexts, [], []⟩
def d_reached_from : He.DefD := ⟨("reached_from", none), "reached_from", "reached_from", defArgs s_reached_from, defBody s_reached_from, defScope s_reached_from, [], []⟩
def d_useful_states : He.DefD := ⟨("useful_states", none), "useful_states", "useful_states", defArgs s_useful_states, defBody s_useful_states, defScope s_useful_states, [], []⟩
def d_steps_of : He.DefD := ⟨("steps_of", none), "steps_of", "steps_of", defArgs s_steps_of, defBody s_steps_of, defScope s_steps_of, [], []⟩
def d_pair_steps : He.DefD := ⟨("pair_steps", none), "pair_steps", "pair_steps", defArgs s_pair_steps, defBody s_pair_steps, defScope s_pair_steps, [], []⟩
def d_doubling_loop : He.DefD := ⟨("doubling_loop", none), "doubling_loop", "doubling_loop", defArgs s_doubling_loop, defBody s_doubling_loop, defScope s_doubling_loop, [], []⟩
def d_comes_back : He.DefD := ⟨("comes_back", none), "comes_back", "comes_back", defArgs s_comes_back, defBody s_comes_back, defScope s_comes_back, [], []⟩
def d_doubling_states : He.DefD := ⟨("doubling_states", none), "doubling_states", "doubling_states", defArgs s_doubling_states, defBody s_doubling_states, defScope s_doubling_states, [], []⟩
def d_does_double : He.DefD := ⟨("does_double", none), "does_double", "does_double", defArgs s_does_double, defBody s_does_double, defScope s_does_double, [], []⟩
def d_text_between : He.DefD := ⟨("text_between", none), "text_between", "text_between", defArgs s_text_between, defBody s_text_between, defScope s_text_between, [], []⟩
def d_doubling_paper : He.DefD := ⟨("doubling_paper", none), "doubling_paper", "doubling_paper", defArgs s_doubling_paper, defBody s_doubling_paper, defScope s_doubling_paper, [], []⟩
def d_turn_of : He.DefD := ⟨("turn_of", none), "turn_of", "turn_of", defArgs s_turn_of, defBody s_turn_of, defScope s_turn_of, [], []⟩
def d_steps_within : He.DefD := ⟨("steps_within", none), "steps_within", "steps_within", defArgs s_steps_within, defBody s_steps_within, defScope s_steps_within, [], []⟩
def d_rise_loop : He.DefD := ⟨("rise_loop", none), "rise_loop", "rise_loop", defArgs s_rise_loop, defBody s_rise_loop, defScope s_rise_loop, [], []⟩
def d_triples : He.DefD := ⟨("triples", none), "triples", "triples", defArgs s_triples, defBody s_triples, defScope s_triples, [], []⟩
def d_rises : He.DefD := ⟨("rises", none), "rises", "rises", defArgs s_rises, defBody s_rises, defScope s_rises, [], []⟩
def d_least_levels : He.DefD := ⟨("least_levels", none), "least_levels", "least_levels", defArgs s_least_levels, defBody s_least_levels, defScope s_least_levels, [], []⟩
def d_degree : He.DefD := ⟨("degree", none), "degree", "degree", defArgs s_degree, defBody s_degree, defScope s_degree, [], []⟩
def d_is_integer_growthpapers : He.DefD := ⟨("is_integer_growthpapers", none), "is_integer", "is_integer", defArgs s_is_integer_growthpapers, defBody s_is_integer_growthpapers, defScope s_is_integer_growthpapers, [], []⟩
def d_few_ways : He.DefD := ⟨("few_ways", none), "few_ways", "few_ways", defArgs s_few_ways, defBody s_few_ways, defScope s_few_ways, [], []⟩
def d_entries : He.DefD := ⟨("entries", none), "entries", "entries", defArgs s_entries, defBody s_entries, defScope s_entries, [], []⟩
def d_is_state : He.DefD := ⟨("is_state", none), "is_state", "is_state", defArgs s_is_state, defBody s_is_state, defScope s_is_state, [], []⟩
def d_starts_of : He.DefD := ⟨("starts_of", none), "starts_of", "starts_of", defArgs s_starts_of, defBody s_starts_of, defScope s_starts_of, [], []⟩
def d_goals_of : He.DefD := ⟨("goals_of", none), "goals_of", "goals_of", defArgs s_goals_of, defBody s_goals_of, defScope s_goals_of, [], []⟩
def d_chain_to : He.DefD := ⟨("chain_to", none), "chain_to", "chain_to", defArgs s_chain_to, defBody s_chain_to, defScope s_chain_to, [], []⟩
def d_power_paper : He.DefD := ⟨("power_paper", none), "power_paper", "power_paper", defArgs s_power_paper, defBody s_power_paper, defScope s_power_paper, [], []⟩
def d_judge_growth : He.DefD := ⟨("judge_growth", none), "judge_growth", "judge_growth", defArgs s_judge_growth, defBody s_judge_growth, defScope s_judge_growth, [], []⟩
def d_leads : He.DefD := ⟨("leads", none), "leads", "leads", defArgs s_leads, defBody s_leads, defScope s_leads, [], []⟩
def d_doubles_hold : He.DefD := ⟨("doubles_hold", none), "doubles_hold", "doubles_hold", defArgs s_doubles_hold, defBody s_doubles_hold, defScope s_doubles_hold, [], []⟩
def d_levels_hold : He.DefD := ⟨("levels_hold", none), "levels_hold", "levels_hold", defArgs s_levels_hold, defBody s_levels_hold, defScope s_levels_hold, [], []⟩
def d_piece_holds : He.DefD := ⟨("piece_holds", none), "piece_holds", "piece_holds", defArgs s_piece_holds, defBody s_piece_holds, defScope s_piece_holds, [], []⟩
def d_power_holds : He.DefD := ⟨("power_holds", none), "power_holds", "power_holds", defArgs s_power_holds, defBody s_power_holds, defScope s_power_holds, [], []⟩
def d_growth_holds : He.DefD := ⟨("growth_holds", none), "growth_holds", "growth_holds", defArgs s_growth_holds, defBody s_growth_holds, defScope s_growth_holds, [], []⟩
def d_grows_more : He.DefD := ⟨("grows_more", none), "grows_more", "grows_more", defArgs s_grows_more, defBody s_grows_more, defScope s_grows_more, [], []⟩
def d_need_same_digits : He.DefD := ⟨("need_same_digits", none), "need_same_digits", "need_same_digits", defArgs s_need_same_digits, defBody s_need_same_digits, defScope s_need_same_digits, [], []⟩
def d_beside : He.DefD := ⟨("beside", none), "beside", "beside", defArgs s_beside, defBody s_beside, defScope s_beside, [], []⟩
def d_without_bridge : He.DefD := ⟨("without_bridge", none), "without_bridge", "without_bridge", defArgs s_without_bridge, defBody s_without_bridge, defScope s_without_bridge, [], []⟩
def d_added : He.DefD := ⟨("added", none), "added", "added", defArgs s_added, defBody s_added, defScope s_added, [], []⟩
def d_times : He.DefD := ⟨("times", none), "times", "times", defArgs s_times, defBody s_times, defScope s_times, [], []⟩
def d_row_products : He.DefD := ⟨("row_products", none), "row_products", "row_products", defArgs s_row_products, defBody s_row_products, defScope s_row_products, [], []⟩
def d_table_products : He.DefD := ⟨("table_products", none), "table_products", "table_products", defArgs s_table_products, defBody s_table_products, defScope s_table_products, [], []⟩
def d_multiplied : He.DefD := ⟨("multiplied", none), "multiplied", "multiplied", defArgs s_multiplied, defBody s_multiplied, defScope s_multiplied, [], []⟩
def d_met : He.DefD := ⟨("met", none), "met", "met", defArgs s_met, defBody s_met, defScope s_met, [], []⟩
def d_turned : He.DefD := ⟨("turned", none), "turned", "turned", defArgs s_turned, defBody s_turned, defScope s_turned, [], []⟩
def d_ahead : He.DefD := ⟨("ahead", none), "ahead", "ahead", defArgs s_ahead, defBody s_ahead, defScope s_ahead, [], []⟩
def d_behind : He.DefD := ⟨("behind", none), "behind", "behind", defArgs s_behind, defBody s_behind, defScope s_behind, [], []⟩
def d_law_deck : He.DefD := ⟨("_law_deck", none), "_law_deck", "_law_deck", defArgs s_law_deck, defBody s_law_deck, defScope s_law_deck, [], []⟩
def d_law_draw : He.DefD := ⟨("_law_draw", none), "_law_draw", "_law_draw", defArgs s_law_draw, defBody s_law_draw, defScope s_law_draw, [], []⟩
def d_law_pick : He.DefD := ⟨("_law_pick", none), "_law_pick", "_law_pick", defArgs s_law_pick, defBody s_law_pick, defScope s_law_pick, [], []⟩
def d_law_count : He.DefD := ⟨("_law_count", none), "_law_count", "_law_count", defArgs s_law_count, defBody s_law_count, defScope s_law_count, [], []⟩
def d_law_code : He.DefD := ⟨("_law_code", none), "_law_code", "_law_code", defArgs s_law_code, defBody s_law_code, defScope s_law_code, [], []⟩
def d_law_kind : He.DefD := ⟨("_law_kind", none), "_law_kind", "_law_kind", defArgs s_law_kind, defBody s_law_kind, defScope s_law_kind, [], []⟩
def d_law_added_right : He.DefD := ⟨("_law_added_right", none), "_law_added_right", "_law_added_right", defArgs s_law_added_right, defBody s_law_added_right, defScope s_law_added_right, [], []⟩
def d_law_product_right : He.DefD := ⟨("_law_product_right", none), "_law_product_right", "_law_product_right", defArgs s_law_product_right, defBody s_law_product_right, defScope s_law_product_right, [], []⟩
def d_law_met_right : He.DefD := ⟨("_law_met_right", none), "_law_met_right", "_law_met_right", defArgs s_law_met_right, defBody s_law_met_right, defScope s_law_met_right, [], []⟩
def d_law_cut_right : He.DefD := ⟨("_law_cut_right", none), "_law_cut_right", "_law_cut_right", defArgs s_law_cut_right, defBody s_law_cut_right, defScope s_law_cut_right, [], []⟩
def d_law : He.DefD := ⟨("law", none), "law", "law", defArgs s_law, defBody s_law, defScope s_law, [], []⟩
def fnA : List He.DefD := [d_product_of, d_columns_of, d_led_on, d_table_product, d_still_table, d_turned_table, d_times_column, d_is_integer_tickets, d_are_integers, d_are_digits, d_is_ticket, d_is_table, d_are_tables, d_Tally_init, d_Tally_len, d_Tally_step, d_Tally_row, d_Tally_table, d_nexts, d_reached_from, d_useful_states, d_steps_of, d_pair_steps, d_doubling_loop, d_comes_back, d_doubling_states, d_does_double, d_text_between, d_doubling_paper, d_turn_of, d_steps_within, d_rise_loop, d_triples, d_rises, d_least_levels, d_degree, d_is_integer_growthpapers, d_few_ways]
def fnB : List He.DefD := [d_entries, d_is_state, d_starts_of, d_goals_of, d_chain_to, d_power_paper, d_judge_growth, d_leads, d_doubles_hold, d_levels_hold, d_piece_holds, d_power_holds, d_growth_holds, d_grows_more, d_need_same_digits, d_beside, d_without_bridge, d_added, d_times, d_row_products, d_table_products, d_multiplied, d_met, d_turned, d_ahead, d_behind, d_law_deck, d_law_draw, d_law_pick, d_law_count, d_law_code, d_law_kind, d_law_added_right, d_law_product_right, d_law_met_right, d_law_cut_right, d_law]
def fn : List He.DefD := fnA ++ fnB
def faA : List He.Fa := [.glo "product_of", .glo "columns_of", .glo "led_on", .glo "table_product", .glo "still_table", .glo "turned_table", .glo "times_column", .glo "is_integer_tickets", .glo "are_integers", .glo "are_digits", .glo "is_ticket", .glo "is_table", .glo "are_tables", .glo "nexts", .glo "reached_from", .glo "useful_states", .glo "steps_of", .glo "pair_steps", .glo "doubling_loop", .glo "comes_back", .glo "doubling_states", .glo "does_double", .glo "text_between", .glo "doubling_paper", .glo "turn_of", .glo "steps_within", .glo "rise_loop", .glo "triples", .glo "rises", .glo "least_levels", .glo "degree", .glo "is_integer_growthpapers", .glo "few_ways", .glo "entries", .glo "is_state", .glo "starts_of"]
def faB : List He.Fa := [.glo "goals_of", .glo "chain_to", .glo "power_paper", .glo "judge_growth", .glo "leads", .glo "doubles_hold", .glo "levels_hold", .glo "piece_holds", .glo "power_holds", .glo "growth_holds", .glo "grows_more", .glo "need_same_digits", .glo "beside", .glo "without_bridge", .glo "added", .glo "times", .glo "row_products", .glo "table_products", .glo "multiplied", .glo "met", .glo "turned", .glo "ahead", .glo "behind", .glo "_law_deck", .glo "_law_draw", .glo "_law_pick", .glo "_law_count", .glo "_law_code", .glo "_law_kind", .glo "_law_added_right", .glo "_law_product_right", .glo "_law_met_right", .glo "_law_cut_right", .glo "law", .free "range", .free "len"]
def faC : List He.Fa := [.free "zip", .free "enumerate", .free "sum", .free "sorted", .free "set", .free "list", .free "tuple", .free "dict", .free "any", .free "all", .free "max", .free "min", .free "int", .free "isinstance", .free "str", .free "bool", .glo "Tally", .cls "Tally", .mkr "Tally", .noat "Tally" "digits", .noat "Tally" "start", .noat "Tally" "tables", .noat "Tally" "ends", .noat "Tally" "table_by_digit", .meth "Tally" "__init__", .meth "Tally" "__len__", .meth "Tally" "step", .meth "Tally" "row", .meth "Tally" "table", .str "FIGURES" "0123456789", .str "DOUBLES" "doubles", .str "POWER" "power", .int "DOUBLES_PARTS" 5, .int "POWER_PARTS" 4, .int "PIECE_PARTS" 4, .int "LEVEL_PARTS" 2]
def fa : List He.Fa := faA ++ faB ++ faC
def loose0 : List PySem.Str := ["_wall", "TallyError", "BadTally", "BadText", "BadTicket", "OtherDigits", "product_of", "columns_of", "led_on", "table_product", "still_table", "turned_table", "times_column", "FIGURES", "is_integer", "is_integer_tickets"]
def loose1 : List PySem.Str := ["are_integers", "are_digits", "is_ticket", "BLANK", "MINUS", "HEAD", "START", "TABLE", "ENDS", "HEAD_WORDS", "is_table", "are_tables", "words_of", "table_lines", "text_of", "number_in"]
def loose2 : List PySem.Str := ["row_in", "Lines", "parts_in", "Tally", "nexts", "reached_from", "useful_states", "steps_of", "pair_steps", "doubling_loop", "comes_back", "doubling_states", "does_double", "text_between", "doubling_paper", "turn_of"]
def loose3 : List PySem.Str := ["steps_within", "rise_loop", "triples", "rises", "least_levels", "degree", "DOUBLES", "POWER", "DOUBLES_PARTS", "POWER_PARTS", "PIECE_PARTS", "LEVEL_PARTS", "is_integer_growthpapers", "few_ways", "entries", "is_state"]
def loose4 : List PySem.Str := ["starts_of", "goals_of", "chain_to", "power_paper", "judge_growth", "leads", "doubles_hold", "levels_hold", "piece_holds", "power_holds", "growth_holds", "grows_more", "need_same_digits", "beside", "without_bridge", "added"]
def loose5 : List PySem.Str := ["times", "row_products", "table_products", "multiplied", "met", "turned", "ahead", "behind", "_law_deck", "_law_draw", "_law_pick", "_law_count", "_law_code", "_law_kind", "_law_added_right", "_law_product_right"]
def loose6 : List PySem.Str := ["_law_met_right", "_law_cut_right"]
def loose : List PySem.Str := loose0 ++ loose1 ++ loose2 ++ loose3 ++ loose4 ++ loose5 ++ loose6
def valsOf (g : Addr → Option Obj) (a : Addr) : List Addr := match g a with
  | some ⟨_, _, .dict es _, _⟩ => es.toList.flatMap fun e => He.refV e.val
  | _ => []
def codeOf (g : Addr → Option Obj) (a : Addr) : List Addr := match g a with
  | some ⟨_, _, .func fd, _⟩ => He.refV fd.code
  | _ => []
def moreOf (g : Addr → Option Obj) (a : Addr) : List Addr := match g a with
  | some ⟨_, _, .func fd, _⟩ => He.refV fd.code
  | some ⟨_, _, .cls cd, _⟩ => cd.ns :: ((valsOf g cd.ns).flatMap fun b => b :: codeOf g b)
  | _ => []
def asT (g : Addr → Option Obj) : List Addr := mainGlobals :: (valsOf g mainGlobals).flatMap fun a => a :: moreOf g a
def obsTG (fa : List He.Fa) (fn : List He.DefD) (g : Addr → Option Obj) : He.AlD := He.obsD fa fn (He.frG g (asT g))
def hookT (fa : List He.Fa) (fn : List He.DefD) : PySem.W.Hook where
  α := He.AlD
  obs := fun s => obsTG fa fn s.heap.get?
  val := fun _ => He.valD fn
  says := fun _ h => ∃ K : PySem.W.Frag, K.In h ∧ He.SaysD fa fn K
  of := fun _ _ e => ⟨_, He.frG_in, e⟩
  keeps := fun _ _ _ ⟨K, hK, c⟩ k => ⟨K, PySem.W.Frag.In.keeps hK k, c⟩
theorem obsTG_eq {fa : List He.Fa} {fn : List He.DefD} {g : Addr → Option Obj} {s : Shared} (h : ∀ a, g a = s.heap.get? a) : obsTG fa fn g = (hookT fa fn).obs s := by
  have e : g = s.heap.get? := funext h
  rw [e] <;> rfl

end Tly
end
section
set_option Elab.async false
set_option linter.all false
set_option maxRecDepth 100000
set_option maxHeartbeats 0
namespace Tly
open PySem PySem.Spec PyProof.Rows L2
abbrev R : PySem.W.OpenRow := PySem.W.OpenLaw.row PySem.Challenge.rw_tallyhouse_k89_whole_growth_of_made_coun
abbrev hk : PySem.W.Hook := hookT fa fn
def ob (s : PySem.W.SharedT) : He.AlD := obsTG fa fn (HandSHeadRun.getT s)
theorem ob_eq (s : PySem.W.SharedT) : ob s = hk.obs s.abs := obsTG_eq (HandSHeadRun.getT_eq s)
theorem run (w : World) : HandSHeadRun.RunEq R (PySem.W.view R.prog [110]) hk ob 9000 loose w := by
  intro os
  kernel_rfl
end Tly
end
section
set_option linter.all false
set_option maxRecDepth 10000
/-! Counting graphs: paths, pairs of paths, usefulness, doubling, rises, kinds. -/
namespace Gm
structure Gph where
  L : List Nat
  n : Nat
  e : Nat → Nat → Nat → Nat
  s : Nat → Bool
  f : Nat → Bool
inductive Path (G : Gph) (p : Nat) : List Nat → Nat → Prop
  | nil (h : p < G.n) : Path G p [] p
  | snoc {w : List Nat} {q c r : Nat} (h : Path G p w q) (hc : c ∈ G.L) (hr : r < G.n) (he : 0 < G.e c q r) : Path G p (w ++ [c]) r
/-- two walks along one word, the flag: they parted, or a step is more than one -/
inductive PW (G : Gph) (x y : Nat) : List Nat → Nat → Nat → Bool → Prop
  | nil (h : x < G.n) (h' : y < G.n) : PW G x y [] x y false
  | snoc {w : List Nat} {x1 y1 x2 y2 c : Nat} {b : Bool} (h : PW G x y w x1 y1 b) (hc : c ∈ G.L) (h1 : x2 < G.n) (h2 : y2 < G.n) (e1 : 0 < G.e c x1 x2) (e2 : 0 < G.e c y1 y2) :
      PW G x y (w ++ [c]) x2 y2 (b || decide (x2 ≠ y2) || decide (1 < G.e c x1 x2 * G.e c y1 y2))
variable {G : Gph}
theorem Path.lt0 {p q : Nat} {w : List Nat} (h : Path G p w q) : p < G.n := by
  induction h with
  | nil h => exact h
  | snoc _ _ _ _ ih => exact ih
theorem Path.lt {p q : Nat} {w : List Nat} (h : Path G p w q) : q < G.n := by
  cases h with
  | nil h => exact h
  | snoc _ _ h _ => exact h
theorem Path.app {p q r : Nat} {w u : List Nat} (h : Path G p w q) (k : Path G q u r) : Path G p (w ++ u) r := by
  induction k with
  | nil _ => rw [List.append_nil]; exact h
  | snoc _ hc hr he ih => rw [← List.append_assoc]; exact ih.snoc hc hr he
theorem Path.one {p q c : Nat} (hp : p < G.n) (hq : q < G.n) (hc : c ∈ G.L) (he : 0 < G.e c p q) : Path G p [c] q := (Path.nil hp).snoc hc hq he
theorem Path.nil_eq {p q : Nat} (h : Path G p [] q) : p = q := by
  generalize hw : ([] : List Nat) = w at h
  cases h with
  | nil _ => rfl
  | snoc _ _ _ _ => simp at hw
theorem Path.snoc_inv {p r c : Nat} {w : List Nat} (h : Path G p (w ++ [c]) r) : ∃ q, Path G p w q ∧ c ∈ G.L ∧ r < G.n ∧ 0 < G.e c q r := by
  generalize hw : w ++ [c] = u at h
  cases h with
  | nil _ => simp at hw
  | snoc h hc hr he =>
    obtain ⟨h1, h2⟩ := List.append_inj' hw rfl
    cases h2
    subst h1
    exact ⟨_, h, hc, hr, he⟩
theorem Path.split {p r : Nat} {u : List Nat} : ∀ {v : List Nat}, Path G p (u ++ v) r → ∃ q, Path G p u q ∧ Path G q v r := by
  intro v
  induction hl : v.length generalizing v r with
  | zero =>
    intro h
    have : v = [] := List.eq_nil_of_length_eq_zero hl
    subst this
    rw [List.append_nil] at h
    exact ⟨r, h, .nil h.lt⟩
  | succ n ih =>
    intro h
    have hv : v ≠ [] := fun z => by rw [z] at hl; cases hl
    obtain ⟨v', c, rfl⟩ : ∃ v' c, v = v' ++ [c] := ⟨v.dropLast, v.getLast hv, (List.dropLast_concat_getLast hv).symm⟩
    rw [← List.append_assoc] at h
    obtain ⟨q, h1, hc, hr, he⟩ := h.snoc_inv
    obtain ⟨q', a, b⟩ := ih (v := v') (by simpa using hl) h1
    exact ⟨q', a, b.snoc hc hr he⟩
theorem PW.left {x y x1 y1 : Nat} {w : List Nat} {b : Bool} (h : PW G x y w x1 y1 b) : Path G x w x1 := by
  induction h with
  | nil h _ => exact .nil h
  | snoc _ hc h1 _ e1 _ ih => exact ih.snoc hc h1 e1
theorem PW.right {x y x1 y1 : Nat} {w : List Nat} {b : Bool} (h : PW G x y w x1 y1 b) : Path G y w y1 := by
  induction h with
  | nil _ h => exact .nil h
  | snoc _ hc _ h1 _ e1 ih => exact ih.snoc hc h1 e1
theorem PW.ext {x y x1 y1 : Nat} {u : List Nat} {b : Bool} (h : PW G x y u x1 y1 b) : ∀ {v : List Nat} {x2 y2 : Nat}, Path G x1 v x2 → Path G y1 v y2 → ∃ b', PW G x y (u ++ v) x2 y2 b' ∧ (b = true → b' = true) := by
  intro v
  induction hl : v.length generalizing v with
  | zero =>
    intro x2 y2 h1 h2
    have : v = [] := List.eq_nil_of_length_eq_zero hl
    subst this
    have e1 := h1.nil_eq
    have e2 := h2.nil_eq
    subst e1 e2
    exact ⟨b, by rw [List.append_nil]; exact h, id⟩
  | succ n ih =>
    intro x2 y2 h1 h2
    have hv : v ≠ [] := fun z => by rw [z] at hl; cases hl
    obtain ⟨v', c, rfl⟩ : ∃ v' c, v = v' ++ [c] := ⟨v.dropLast, v.getLast hv, (List.dropLast_concat_getLast hv).symm⟩
    obtain ⟨q1, a1, hc, hr1, he1⟩ := h1.snoc_inv
    obtain ⟨q2, a2, _, hr2, he2⟩ := h2.snoc_inv
    obtain ⟨b', hb, hbb⟩ := ih (v := v') (by simpa using hl) a1 a2
    refine ⟨_, by rw [← List.append_assoc]; exact hb.snoc hc hr1 hr2 he1 he2, fun z => ?_⟩
    rw [hbb z]; rfl
theorem PW.of {x y x1 y1 : Nat} {w : List Nat} (h1 : Path G x w x1) (h2 : Path G y w y1) : ∃ b, PW G x y w x1 y1 b := by
  obtain ⟨b, h, _⟩ := (PW.nil h1.lt0 h2.lt0).ext (v := w) h1 h2
  exact ⟨b, h⟩
theorem PW.flag {x y z : Nat} {w : List Nat} {b : Bool} (h : PW G x x w y z b) (n : y ≠ z) : b = true := by
  cases h with
  | nil _ _ => exact absurd rfl n
  | snoc _ _ _ _ _ _ => simp [n]
/-- two routes -/
theorem two_of {p q1 q2 r : Nat} {u v : List Nat} (a1 : Path G p u q1) (a2 : Path G p u q2) (b1 : Path G q1 v r) (b2 : Path G q2 v r) (n : q1 ≠ q2) : PW G p p (u ++ v) r r true := by
  obtain ⟨b, h⟩ := PW.of a1 a2
  have hb := h.flag n
  subst hb
  obtain ⟨b', h', hb'⟩ := h.ext b1 b2
  rw [hb' rfl] at h'
  exact h'
def Reach (G : Gph) (p q : Nat) : Prop := ∃ w, Path G p w q
theorem Reach.refl {p : Nat} (h : p < G.n) : Reach G p p := ⟨[], .nil h⟩
theorem Reach.trans {p q r : Nat} (h : Reach G p q) (k : Reach G q r) : Reach G p r := by
  obtain ⟨w, a⟩ := h
  obtain ⟨u, b⟩ := k
  exact ⟨_, a.app b⟩
theorem Reach.lt {p q : Nat} (h : Reach G p q) : q < G.n := let ⟨_, a⟩ := h; a.lt
theorem Reach.lt0 {p q : Nat} (h : Reach G p q) : p < G.n := let ⟨_, a⟩ := h; a.lt0
def Useful (G : Gph) (p : Nat) : Prop := (∃ a, G.s a = true ∧ Reach G a p) ∧ ∃ b, G.f b = true ∧ Reach G p b
theorem Useful.lt {p : Nat} (h : Useful G p) : p < G.n := let ⟨⟨_, _, a⟩, _⟩ := h; a.lt
/-- between useful states all are useful -/
theorem Useful.mid {p q r : Nat} (h : Useful G p) (k : Useful G r) (a : Reach G p q) (b : Reach G q r) : Useful G q := by
  obtain ⟨⟨s, hs, hp⟩, _⟩ := h
  obtain ⟨_, f, hf, hr⟩ := k
  exact ⟨⟨s, hs, hp.trans a⟩, f, hf, b.trans hr⟩
def Dbl (G : Gph) (p : Nat) : Prop := Useful G p ∧ ∃ w, PW G p p w p p true
def Loop3 (G : Gph) (w : List Nat) (p q : Nat) : Prop := Path G p w p ∧ Path G p w q ∧ Path G q w q
def Rise (G : Gph) (p q : Nat) : Prop := p ≠ q ∧ Useful G p ∧ Useful G q ∧ ∃ w, Loop3 G w p q
theorem Rise.reach {p q : Nat} (h : Rise G p q) : Reach G p q := let ⟨_, _, _, w, _, a, _⟩ := h; ⟨w, a⟩
/-- no way back over a rise -/
theorem Rise.back {p q : Nat} (h : Rise G p q) (k : Reach G q p) : Dbl G p := by
  obtain ⟨n, hp, hq, w, a, b, c⟩ := h
  obtain ⟨v, d⟩ := k
  exact ⟨hp, w ++ (w ++ v), two_of a b (b.app d) (c.app d) n⟩
/-- from a to b over m rises -/
inductive Lev (G : Gph) (a : Nat) : Nat → Nat → Prop
  | refl (h : Useful G a) : Lev G a 0 a
  | move {m b c : Nat} (h : Lev G a m b) (k : Reach G b c) (u : Useful G c) : Lev G a m c
  | rise {m p q : Nat} (h : Lev G a m p) (k : Rise G p q) : Lev G a (m + 1) q
theorem Lev.use {a b m : Nat} (h : Lev G a m b) : Useful G b := by
  cases h with
  | refl h => exact h
  | move _ _ u => exact u
  | rise _ k => exact k.2.2.1
theorem Lev.use0 {a b m : Nat} (h : Lev G a m b) : Useful G a := by
  induction h with
  | refl h => exact h
  | move _ _ _ ih => exact ih
  | rise _ _ ih => exact ih
theorem Lev.reach {a b m : Nat} (h : Lev G a m b) : Reach G a b := by
  induction h with
  | refl h => exact .refl h.lt
  | move _ k _ ih => exact ih.trans k
  | rise _ k ih => exact ih.trans k.reach
theorem Lev.app {a b c m k : Nat} (h : Lev G a m b) (j : Lev G b k c) : Lev G a (m + k) c := by
  induction j with
  | refl _ => exact h
  | move _ k u ih => exact ih.move k u
  | rise _ k ih => exact ih.rise k
def NoDbl (G : Gph) : Prop := ∀ p, ¬ Dbl G p
/-- the kind: -1 doubles; else the most rises -/
def KindIs (G : Gph) (k : Int) : Prop := (k = -1 ∧ ∃ p, Dbl G p) ∨ (NoDbl G ∧ ∃ m : Nat, k = m ∧ (m = 0 ∨ ∃ a b, Lev G a m b) ∧ ∀ a m' b, Lev G a m' b → m' ≤ m)
theorem KindIs.uniq {k k' : Int} (h : KindIs G k) (h' : KindIs G k') : k = k' := by
  rcases h with ⟨rfl, p, d⟩ | ⟨nd, m, rfl, h1, h2⟩
  · rcases h' with ⟨rfl, _⟩ | ⟨nd, _⟩
    · rfl
    · exact absurd d (nd p)
  · rcases h' with ⟨_, p, d⟩ | ⟨_, m', rfl, h3, h4⟩
    · exact absurd d (nd p)
    · have a : m ≤ m' := by
        rcases h1 with rfl | ⟨a, b, l⟩
        · exact Nat.zero_le _
        · exact h4 _ _ _ l
      have b : m' ≤ m := by
        rcases h3 with rfl | ⟨a, b, l⟩
        · exact Nat.zero_le _
        · exact h2 _ _ _ l
      have : m = m' := Nat.le_antisymm a b
      rw [this]
theorem KindIs.neg {k : Int} (h : KindIs G k) : k < 0 ↔ ∃ p, Dbl G p := by
  rcases h with ⟨rfl, d⟩ | ⟨nd, m, rfl, _⟩
  · exact ⟨fun _ => d, fun _ => by decide⟩
  · exact ⟨fun z => by omega, fun ⟨p, d⟩ => absurd d (nd p)⟩
theorem KindIs.ge {k : Int} (h : KindIs G k) : -1 ≤ k := by
  rcases h with ⟨rfl, d⟩ | ⟨nd, m, rfl, _⟩ <;> omega
theorem KindIs.le {k : Int} (h : KindIs G k) (nd : NoDbl G) {a b m : Nat} (l : Lev G a m b) : (m : Int) ≤ k := by
  rcases h with ⟨_, p, d⟩ | ⟨_, m', rfl, _, h4⟩
  · exact absurd d (nd p)
  · have := h4 _ _ _ l; omega
theorem KindIs.get {k : Int} (h : KindIs G k) (nd : NoDbl G) : ∃ m : Nat, k = m ∧ (m = 0 ∨ ∃ a b, Lev G a m b) := by
  rcases h with ⟨_, p, d⟩ | ⟨_, m', rfl, h3, _⟩
  · exact absurd d (nd p)
  · exact ⟨m', rfl, h3⟩
end Gm
end
section
set_option linter.all false
set_option maxRecDepth 10000
/-! Kinds of graphs made from graphs: reversed, with fewer starts and ends, beside one another, multiplied, met. -/
namespace Gm
variable {G A B : Gph}
theorem PW.app {x y x1 y1 x2 y2 : Nat} {u v : List Nat} {b b' : Bool} (h : PW G x y u x1 y1 b) (k : PW G x1 y1 v x2 y2 b') : PW G x y (u ++ v) x2 y2 (b || b') := by
  induction k with
  | nil _ _ => rw [List.append_nil, Bool.or_false]; exact h
  | @snoc w x1' y1' x2' y2' c b0 _ hc h1 h2 e1 e2 ih =>
    have := ih.snoc hc h1 h2 e1 e2
    rw [List.append_assoc] at this
    simpa [Bool.or_assoc] using this
theorem PW.one {x y x1 y1 c : Nat} (hx : x < G.n) (hy : y < G.n) (hc : c ∈ G.L) (h1 : x1 < G.n) (h2 : y1 < G.n) (e1 : 0 < G.e c x x1) (e2 : 0 < G.e c y y1) : PW G x y [c] x1 y1 (decide (x1 ≠ y1) || decide (1 < G.e c x x1 * G.e c y y1)) := by
  have := (PW.nil hx hy).snoc hc h1 h2 e1 e2
  simpa using this
theorem PW.nonempty {x w} (h : PW G x x w x x true) : w ≠ [] := fun z => by
  subst z
  generalize hw : ([] : List Nat) = u at h
  generalize hb : true = b at h
  cases h with
  | nil _ _ => cases hb
  | snoc _ _ _ _ _ _ => simp at hw

/-! ### reversed -/
structure Rv (G H : Gph) : Prop where
  L : H.L = G.L
  n : H.n = G.n
  e : ∀ c p q, p < G.n → q < G.n → H.e c p q = G.e c q p
  s : ∀ p, p < G.n → H.s p = G.f p
  f : ∀ p, p < G.n → H.f p = G.s p
theorem Rv.symm {H : Gph} (R : Rv G H) : Rv H G := ⟨R.L.symm, R.n.symm, fun c p q hp hq => (R.e c q p (R.n ▸ hq) (R.n ▸ hp)).symm, fun p hp => (R.f p (R.n ▸ hp)).symm, fun p hp => (R.s p (R.n ▸ hp)).symm⟩
section
variable {H : Gph}
theorem Rv.pw (R : Rv G H) {x y x1 y1 : Nat} {w : List Nat} {b : Bool} (h : PW G x y w x1 y1 b) : ∃ b', PW H x1 y1 w.reverse x y b' ∧ (b' || decide (x1 ≠ y1)) = (b || decide (x ≠ y)) := by
  induction h with
  | nil hx hy => exact ⟨false, .nil (by rw [R.n]; exact hx) (by rw [R.n]; exact hy), rfl⟩
  | @snoc w x1 y1 x2 y2 c b h hc h1 h2 e1 e2 ih =>
    obtain ⟨b', hp, hb⟩ := ih
    have l1 := h.left.lt
    have l2 := h.right.lt
    have s := PW.one (G := H) (x := x2) (y := y2) (x1 := x1) (y1 := y1) (c := c) (by rw [R.n]; exact h1) (by rw [R.n]; exact h2) (by rw [R.L]; exact hc) (by rw [R.n]; exact l1) (by rw [R.n]; exact l2) (by rw [R.e c _ _ h1 l1]; exact e1) (by rw [R.e c _ _ h2 l2]; exact e2)
    have := s.app hp
    rw [R.e c _ _ h1 l1, R.e c _ _ h2 l2] at this
    refine ⟨_, by rw [List.reverse_append]; exact this, ?_⟩
    generalize decide (x2 ≠ y2) = p2
    generalize decide (1 < G.e c x1 x2 * G.e c y1 y2) = m
    generalize decide (x1 ≠ y1) = p1 at hb ⊢
    generalize decide (x ≠ y) = p0 at hb ⊢
    revert hb
    cases b <;> cases b' <;> cases p2 <;> cases m <;> cases p1 <;> cases p0 <;> decide
theorem Rv.path (R : Rv G H) {x y : Nat} {w : List Nat} (h : Path G x w y) : Path H y w.reverse x := by
  obtain ⟨b, hp⟩ := PW.of h h
  obtain ⟨_, h', _⟩ := R.pw hp
  exact h'.left
theorem Rv.reach (R : Rv G H) {x y : Nat} (h : Reach G x y) : Reach H y x := let ⟨w, a⟩ := h; ⟨_, R.path a⟩
theorem Rv.use (R : Rv G H) {p : Nat} (h : Useful G p) : Useful H p := by
  obtain ⟨⟨a, ha, h1⟩, b, hb, h2⟩ := h
  exact ⟨⟨b, by rw [R.s b h2.lt]; exact hb, R.reach h2⟩, a, by rw [R.f a h1.lt0]; exact ha, R.reach h1⟩
theorem Rv.dbl (R : Rv G H) {p : Nat} (h : Dbl G p) : Dbl H p := by
  obtain ⟨u, w, a⟩ := h
  obtain ⟨b', h1, h2⟩ := R.pw a
  have : b' = true := by simpa using h2
  subst this
  exact ⟨R.use u, _, h1⟩
theorem Rv.rise (R : Rv G H) {p q : Nat} (h : Rise G p q) : Rise H q p := by
  obtain ⟨n, hp, hq, w, a, b, c⟩ := h
  exact ⟨Ne.symm n, R.use hq, R.use hp, w.reverse, R.path c, R.path b, R.path a⟩
theorem Rv.lev (R : Rv G H) {a b m : Nat} (h : Lev G a m b) : Lev H b m a := by
  induction h with
  | refl h => exact .refl (R.use h)
  | @move m b c h k u ih =>
    have := (Lev.refl (R.use u)).move (R.reach k) (R.use h.use)
    simpa using this.app ih
  | @rise m p q h k ih =>
    have := (Lev.refl (R.use k.2.2.1)).rise (R.rise k)
    have := this.app ih
    rw [Nat.add_comm] at this
    simpa [Nat.add_comm] using this
theorem Rv.kind (R : Rv G H) {k : Int} (h : KindIs G k) : KindIs H k := by
  rcases h with ⟨rfl, p, d⟩ | ⟨nd, m, rfl, h1, h2⟩
  · exact .inl ⟨rfl, p, R.dbl d⟩
  · refine .inr ⟨fun p d => nd p (R.symm.dbl d), m, rfl, ?_, fun a m' b l => h2 b m' a (R.symm.lev l)⟩
    rcases h1 with h1 | ⟨a, b, l⟩
    · exact .inl h1
    · exact .inr ⟨b, a, R.lev l⟩
end

/-! ### fewer starts and ends -/
structure Sub (G H : Gph) : Prop where
  L : H.L = G.L
  n : H.n = G.n
  e : H.e = G.e
  s : ∀ a, a < G.n → H.s a = true → ∃ x, G.s x = true ∧ Reach G x a
  f : ∀ b, b < G.n → H.f b = true → ∃ y, G.f y = true ∧ Reach G b y
section
variable {H : Gph}
theorem Sub.path (S : Sub G H) {x y : Nat} {w : List Nat} (h : Path H x w y) : Path G x w y := by
  induction h with
  | nil h => exact .nil (S.n ▸ h)
  | snoc _ hc hr he ih => exact ih.snoc (S.L ▸ hc) (S.n ▸ hr) (S.e ▸ he)
theorem Sub.pw (S : Sub G H) {x y x1 y1 : Nat} {w : List Nat} {b : Bool} (h : PW H x y w x1 y1 b) : PW G x y w x1 y1 b := by
  induction h with
  | nil h h' => exact .nil (S.n ▸ h) (S.n ▸ h')
  | snoc _ hc h1 h2 e1 e2 ih =>
    rw [S.e] at e1 e2 ⊢
    exact ih.snoc (S.L ▸ hc) (S.n ▸ h1) (S.n ▸ h2) e1 e2
theorem Sub.reach (S : Sub G H) {x y : Nat} (h : Reach H x y) : Reach G x y := let ⟨w, a⟩ := h; ⟨w, S.path a⟩
theorem Sub.use (S : Sub G H) {p : Nat} (h : Useful H p) : Useful G p := by
  obtain ⟨⟨a, ha, h1⟩, b, hb, h2⟩ := h
  obtain ⟨x, hx, r1⟩ := S.s a (S.n ▸ h1.lt0) ha
  obtain ⟨y, hy, r2⟩ := S.f b (S.n ▸ h2.lt) hb
  exact ⟨⟨x, hx, r1.trans (S.reach h1)⟩, y, hy, (S.reach h2).trans r2⟩
theorem Sub.dbl (S : Sub G H) {p : Nat} (h : Dbl H p) : Dbl G p := let ⟨u, w, a⟩ := h; ⟨S.use u, w, S.pw a⟩
theorem Sub.rise (S : Sub G H) {p q : Nat} (h : Rise H p q) : Rise G p q := let ⟨n, hp, hq, w, a, b, c⟩ := h; ⟨n, S.use hp, S.use hq, w, S.path a, S.path b, S.path c⟩
theorem Sub.lev (S : Sub G H) {a b m : Nat} (h : Lev H a m b) : Lev G a m b := by
  induction h with
  | refl h => exact .refl (S.use h)
  | move _ k u ih => exact ih.move (S.reach k) (S.use u)
  | rise _ k ih => exact ih.rise (S.rise k)
theorem Sub.kind (S : Sub G H) {k k' : Int} (h : KindIs G k) (h' : KindIs H k') (hk : 0 ≤ k) : 0 ≤ k' ∧ k' ≤ k := by
  rcases h with ⟨rfl, _⟩ | ⟨nd, m, rfl, h1, h2⟩
  · omega
  · rcases h' with ⟨rfl, p, d⟩ | ⟨nd', m', rfl, h3, h4⟩
    · exact absurd (S.dbl d) (nd p)
    · rcases h3 with rfl | ⟨a, b, l⟩
      · omega
      · have := h2 _ _ _ (S.lev l); omega
end
/-- nothing useful -/
theorem kind_none {k : Int} (h : ∀ p, ¬ Useful G p) (K : KindIs G k) : k = 0 := by
  rcases K with ⟨_, p, d⟩ | ⟨nd, m, rfl, h3, h4⟩
  · exact absurd d.1 (h p)
  · rcases h3 with rfl | ⟨a, b, l⟩
    · rfl
    · exact absurd l.use (h b)

/-! ### a part of a graph -/
structure Emb (A G : Gph) (i : Nat → Nat) : Prop where
  L : A.L = G.L
  lt : ∀ p, p < A.n → i p < G.n
  inj : ∀ p q, p < A.n → q < A.n → i p = i q → p = q
  e : ∀ c p q, c ∈ A.L → p < A.n → q < A.n → G.e c (i p) (i q) = A.e c p q
  cl : (∀ c p r, c ∈ A.L → p < A.n → r < G.n → 0 < G.e c (i p) r → ∃ q, q < A.n ∧ r = i q) ∨ (∀ c q r, c ∈ A.L → q < A.n → r < G.n → 0 < G.e c r (i q) → ∃ p, p < A.n ∧ r = i p)
section
variable {i : Nat → Nat}
theorem Emb.pw (E : Emb A G i) {x y x1 y1 : Nat} {w : List Nat} {b : Bool} (h : PW A x y w x1 y1 b) : PW G (i x) (i y) w (i x1) (i y1) b := by
  induction h with
  | nil h h' => exact .nil (E.lt _ h) (E.lt _ h')
  | @snoc w x1 y1 x2 y2 c b h hc h1 h2 e1 e2 ih =>
    have l1 := h.left.lt
    have l2 := h.right.lt
    have a1 := E.e c x1 x2 hc l1 h1
    have a2 := E.e c y1 y2 hc l2 h2
    have := ih.snoc (E.L ▸ hc) (E.lt _ h1) (E.lt _ h2) (by rw [a1]; exact e1) (by rw [a2]; exact e2)
    rw [a1, a2] at this
    have q : decide (i x2 ≠ i y2) = decide (x2 ≠ y2) := by
      by_cases z : x2 = y2
      · simp [z]
      · have : i x2 ≠ i y2 := fun h => z (E.inj _ _ h1 h2 h)
        simp [z, this]
    rw [q] at this
    exact this
theorem Emb.pwF (E : Emb A G i) (hf : ∀ c p r, c ∈ A.L → p < A.n → r < G.n → 0 < G.e c (i p) r → ∃ q, q < A.n ∧ r = i q) {x y : Nat} (hx : x < A.n) (hy : y < A.n) {w : List Nat} {r1 r2 : Nat} {b : Bool} (h : PW G (i x) (i y) w r1 r2 b) : ∃ x1 y1, r1 = i x1 ∧ r2 = i y1 ∧ PW A x y w x1 y1 b := by
  induction h with
  | nil _ _ => exact ⟨x, y, rfl, rfl, .nil hx hy⟩
  | @snoc w r1 r2 s1 s2 c b h hc h1 h2 e1 e2 ih =>
    obtain ⟨x1, y1, rfl, rfl, hp⟩ := ih
    have hc' : c ∈ A.L := by rw [E.L]; exact hc
    obtain ⟨x2, l1, rfl⟩ := hf c x1 s1 hc' hp.left.lt h1 e1
    obtain ⟨y2, l2, rfl⟩ := hf c y1 s2 hc' hp.right.lt h2 e2
    have a1 := E.e c x1 x2 hc' hp.left.lt l1
    have a2 := E.e c y1 y2 hc' hp.right.lt l2
    rw [a1] at e1
    rw [a2] at e2
    refine ⟨x2, y2, rfl, rfl, ?_⟩
    have q : decide (i x2 ≠ i y2) = decide (x2 ≠ y2) := by
      by_cases z : x2 = y2
      · simp [z]
      · have : i x2 ≠ i y2 := fun h => z (E.inj _ _ l1 l2 h)
        simp [z, this]
    rw [q, a1, a2]
    exact hp.snoc hc' l1 l2 e1 e2
theorem Emb.pwB (E : Emb A G i) (hf : ∀ c q r, c ∈ A.L → q < A.n → r < G.n → 0 < G.e c r (i q) → ∃ p, p < A.n ∧ r = i p) {r1 r2 s1 s2 : Nat} {w : List Nat} {b : Bool} (h : PW G r1 r2 w s1 s2 b) : ∀ {x1 y1 : Nat}, x1 < A.n → y1 < A.n → s1 = i x1 → s2 = i y1 → ∃ x y, r1 = i x ∧ r2 = i y ∧ PW A x y w x1 y1 b := by
  induction h with
  | nil _ _ => exact fun {x1 y1} h1 h2 e1 e2 => ⟨x1, y1, e1, e2, .nil h1 h2⟩
  | @snoc w t1 t2 s1 s2 c b h hc h1 h2 e1 e2 ih =>
    intro x1 y1 l1 l2 q1 q2
    subst q1 q2
    have hc' : c ∈ A.L := by rw [E.L]; exact hc
    obtain ⟨x0, m1, rfl⟩ := hf c x1 t1 hc' l1 h.left.lt e1
    obtain ⟨y0, m2, rfl⟩ := hf c y1 t2 hc' l2 h.right.lt e2
    obtain ⟨x, y, rfl, rfl, hp⟩ := ih m1 m2 rfl rfl
    have a1 := E.e c x0 x1 hc' m1 l1
    have a2 := E.e c y0 y1 hc' m2 l2
    rw [a1] at e1
    rw [a2] at e2
    refine ⟨x, y, rfl, rfl, ?_⟩
    have q : decide (i x1 ≠ i y1) = decide (x1 ≠ y1) := by
      by_cases z : x1 = y1
      · simp [z]
      · have : i x1 ≠ i y1 := fun h => z (E.inj _ _ l1 l2 h)
        simp [z, this]
    rw [q, a1, a2]
    exact hp.snoc hc' l1 l2 e1 e2
theorem Emb.conv (E : Emb A G i) {x y x1 y1 : Nat} (hx : x < A.n) (hy : y < A.n) (hx1 : x1 < A.n) (hy1 : y1 < A.n) {w : List Nat} {b : Bool} (h : PW G (i x) (i y) w (i x1) (i y1) b) : PW A x y w x1 y1 b := by
  rcases E.cl with hf | hf
  · obtain ⟨x2, y2, q1, q2, hp⟩ := E.pwF hf hx hy h
    rw [E.inj _ _ hx1 hp.left.lt q1, E.inj _ _ hy1 hp.right.lt q2]
    exact hp
  · obtain ⟨x2, y2, q1, q2, hp⟩ := E.pwB hf h hx1 hy1 rfl rfl
    rw [E.inj _ _ hx hp.left.lt0 q1, E.inj _ _ hy hp.right.lt0 q2]
    exact hp
theorem Emb.path (E : Emb A G i) {x y : Nat} {w : List Nat} (h : Path A x w y) : Path G (i x) w (i y) := let ⟨_, hp⟩ := PW.of h h; (E.pw hp).left
theorem Emb.pathc (E : Emb A G i) {x y : Nat} (hx : x < A.n) (hy : y < A.n) {w : List Nat} (h : Path G (i x) w (i y)) : Path A x w y := let ⟨_, hp⟩ := PW.of h h; (E.conv hx hx hy hy hp).left
theorem Emb.reach (E : Emb A G i) {x y : Nat} (h : Reach A x y) : Reach G (i x) (i y) := let ⟨w, a⟩ := h; ⟨w, E.path a⟩
theorem Emb.reachc (E : Emb A G i) {x y : Nat} (hx : x < A.n) (hy : y < A.n) (h : Reach G (i x) (i y)) : Reach A x y := let ⟨w, a⟩ := h; ⟨w, E.pathc hx hy a⟩
theorem Emb.dbl (E : Emb A G i) {p : Nat} (h : Dbl A p) (u : Useful G (i p)) : Dbl G (i p) := let ⟨_, w, a⟩ := h; ⟨u, w, E.pw a⟩
theorem Emb.dblc (E : Emb A G i) {p : Nat} (hp : p < A.n) (h : Dbl G (i p)) (u : Useful A p) : Dbl A p := let ⟨_, w, a⟩ := h; ⟨u, w, E.conv hp hp hp hp a⟩
theorem Emb.rise (E : Emb A G i) {p q : Nat} (h : Rise A p q) (u : Useful G (i p)) (v : Useful G (i q)) : Rise G (i p) (i q) :=
  let ⟨n, hp, hq, w, a, b, c⟩ := h; ⟨fun z => n (E.inj _ _ hp.lt hq.lt z), u, v, w, E.path a, E.path b, E.path c⟩
theorem Emb.risec (E : Emb A G i) {p q : Nat} (hp : p < A.n) (hq : q < A.n) (h : Rise G (i p) (i q)) (u : Useful A p) (v : Useful A q) : Rise A p q :=
  let ⟨n, _, _, w, a, b, c⟩ := h; ⟨fun z => n (by rw [z]), u, v, w, E.pathc hp hp a, E.pathc hp hq b, E.pathc hq hq c⟩
end

/-! ### A, and B behind it -/
structure Beh (A B G : Gph) : Prop where
  LA : A.L = G.L
  LB : B.L = G.L
  n : G.n = A.n + B.n
  eA : ∀ c p q, c ∈ G.L → p < A.n → q < A.n → G.e c p q = A.e c p q
  eB : ∀ c p q, c ∈ G.L → p < B.n → q < B.n → G.e c (A.n + p) (A.n + q) = B.e c p q
  no : ∀ c p q, c ∈ G.L → p < B.n → q < A.n → G.e c (A.n + p) q = 0
section
theorem Beh.part (S : Beh A B G) {r : Nat} (h : r < G.n) : r < A.n ∨ ∃ q, q < B.n ∧ r = A.n + q := by
  rcases Nat.lt_or_ge r A.n with z | z
  · exact .inl z
  · exact .inr ⟨r - A.n, by have := S.n; omega, by omega⟩
theorem Beh.backA (S : Beh A B G) (c q r : Nat) (hc : c ∈ A.L) (hq : q < A.n) (hr : r < G.n) (he : 0 < G.e c r q) : ∃ p, p < A.n ∧ r = p := by
  rcases S.part hr with z | ⟨p, hp, rfl⟩
  · exact ⟨r, z, rfl⟩
  · rw [S.no c p q (S.LA ▸ hc) hp hq] at he; omega
theorem Beh.fwdB (S : Beh A B G) (c p r : Nat) (hc : c ∈ B.L) (hp : p < B.n) (hr : r < G.n) (he : 0 < G.e c (A.n + p) r) : ∃ q, q < B.n ∧ r = A.n + q := by
  rcases S.part hr with z | ⟨q, hq, rfl⟩
  · rw [S.no c p r (S.LB ▸ hc) hp z] at he; omega
  · exact ⟨q, hq, rfl⟩
theorem Beh.EA (S : Beh A B G) : Emb A G (fun p => p) where
  L := S.LA
  lt := fun p h => by have := S.n; omega
  inj := fun _ _ _ _ h => h
  e := fun c p q hc hp hq => S.eA c p q (S.LA ▸ hc) hp hq
  cl := .inr S.backA
theorem Beh.EB (S : Beh A B G) : Emb B G (fun q => A.n + q) where
  L := S.LB
  lt := fun p h => by show A.n + p < G.n; have := S.n; omega
  inj := fun p q _ _ h => by have h : A.n + p = A.n + q := h; omega
  e := fun c p q hc hp hq => S.eB c p q (S.LB ▸ hc) hp hq
  cl := .inl S.fwdB
/-- what leads into A comes from A; what comes from B stays in B -/
theorem Beh.intoA (S : Beh A B G) {x q : Nat} {w : List Nat} (h : Path G x w q) (hq : q < A.n) : x < A.n ∧ Path A x w q := by
  obtain ⟨_, hp⟩ := PW.of h h
  obtain ⟨x2, y2, q1, q2, hp'⟩ := S.EA.pwB S.backA hp hq hq rfl rfl
  subst q1
  exact ⟨hp'.left.lt0, hp'.left⟩
theorem Beh.fromB (S : Beh A B G) {q r : Nat} {w : List Nat} (h : Path G (A.n + q) w r) (hq : q < B.n) : ∃ r', r = A.n + r' ∧ Path B q w r' := by
  obtain ⟨_, hp⟩ := PW.of h h
  obtain ⟨x2, y2, q1, q2, hp'⟩ := S.EB.pwF S.fwdB hq hq hp
  exact ⟨x2, q1, hp'.left⟩
/-- a path from A into B crosses once -/
theorem Beh.cross (S : Beh A B G) {p : Nat} (hp : p < A.n) {w : List Nat} {r : Nat} (h : Path G p w r) : ∀ q, q < B.n → r = A.n + q → ∃ u c v p' q', Path A p u p' ∧ c ∈ G.L ∧ p' < A.n ∧ q' < B.n ∧ 0 < G.e c p' (A.n + q') ∧ Path B q' v q := by
  induction h with
  | nil _ => intro q hq e; omega
  | @snoc w r0 c r h hc hr he ih =>
    intro q hq e
    subst e
    rcases S.part h.lt with z | ⟨q0, hq0, rfl⟩
    · exact ⟨w, c, [], r0, q, (S.intoA h z).2, hc, z, hq, he, .nil hq⟩
    · obtain ⟨u, c', v, p', q', h1, h2, h3, h4, h5, h6⟩ := ih q0 hq0 rfl
      refine ⟨u, c', v ++ [c], p', q', h1, h2, h3, h4, h5, h6.snoc (S.LB ▸ hc) hq ?_⟩
      rw [← S.eB c q0 q hc hq0 hq]; exact he
/-- rises of the whole: in A, then one over at most, then in B -/
theorem Beh.lev (S : Beh A B G) (uA : ∀ p, p < A.n → Useful G p → Useful A p) (uB : ∀ q, q < B.n → Useful G (A.n + q) → Useful B q) {a m b : Nat} (h : Lev G a m b) :
    (b < A.n ∧ a < A.n ∧ Lev A a m b) ∨ (∃ b', b = A.n + b' ∧ b' < B.n ∧ ((∃ a', a' < B.n ∧ a = A.n + a' ∧ Lev B a' m b') ∨ ∃ p q mA mB, a < A.n ∧ Lev A a mA p ∧ Lev B q mB b' ∧ m ≤ mA + mB + 1)) := by
  induction h with
  | refl h =>
    rcases S.part h.lt with z | ⟨q, hq, rfl⟩
    · exact .inl ⟨z, z, .refl (uA a z h)⟩
    · exact .inr ⟨q, rfl, hq, .inl ⟨q, hq, rfl, .refl (uB q hq h)⟩⟩
  | @move m b c h k u ih =>
    obtain ⟨w, hw⟩ := k
    rcases S.part u.lt with z | ⟨q, hq, rfl⟩
    · obtain ⟨z2, hA⟩ := S.intoA hw z
      rcases ih with ⟨_, z3, l⟩ | ⟨b', e, _⟩
      · exact .inl ⟨z, z3, l.move ⟨w, hA⟩ (uA c z u)⟩
      · omega
    · have uq := uB q hq u
      rcases ih with ⟨z2, z3, l⟩ | ⟨b', rfl, hb', ih⟩
      · exact .inr ⟨q, rfl, hq, .inr ⟨b, q, m, 0, z3, l, .refl uq, by omega⟩⟩
      · obtain ⟨r', e, hB⟩ := S.fromB hw hb'
        have e : q = r' := by omega
        subst e
        rcases ih with ⟨a', ha', e, l⟩ | ⟨p, q', mA, mB, h1, h2, h3, h4⟩
        · exact .inr ⟨q, rfl, hq, .inl ⟨a', ha', e, l.move ⟨w, hB⟩ uq⟩⟩
        · exact .inr ⟨q, rfl, hq, .inr ⟨p, q', mA, mB, h1, h2, h3.move ⟨w, hB⟩ uq, h4⟩⟩
  | @rise m p q h k ih =>
    obtain ⟨w, hw⟩ := k.reach
    rcases S.part k.2.2.1.lt with z | ⟨q', hq, rfl⟩
    · obtain ⟨z2, hA⟩ := S.intoA hw z
      rcases ih with ⟨_, z3, l⟩ | ⟨b', e, _⟩
      · exact .inl ⟨z, z3, l.rise (S.EA.risec z2 z k (uA p z2 k.2.1) (uA q z k.2.2.1))⟩
      · omega
    · have uq := uB q' hq k.2.2.1
      rcases ih with ⟨z2, z3, l⟩ | ⟨b', rfl, hb', ih⟩
      · exact .inr ⟨q', rfl, hq, .inr ⟨p, q', m, 0, z3, l, .refl uq, by omega⟩⟩
      · have kB := S.EB.risec hb' hq k (uB b' hb' k.2.1) uq
        rcases ih with ⟨a', ha', e, l⟩ | ⟨p, q', mA, mB, h1, h2, h3, h4⟩
        · exact .inr ⟨_, rfl, hq, .inl ⟨a', ha', e, l.rise kB⟩⟩
        · exact .inr ⟨_, rfl, hq, .inr ⟨p, q', mA, mB + 1, h1, h2, h3.rise kB, by omega⟩⟩

/-! ### beside one another -/
structure Sum (A B G : Gph) : Prop extends Beh A B G where
  no' : ∀ c p q, c ∈ G.L → p < A.n → q < B.n → G.e c p (A.n + q) = 0
  sA : ∀ p, p < A.n → G.s p = A.s p
  fA : ∀ p, p < A.n → G.f p = A.f p
  sB : ∀ p, p < B.n → G.s (A.n + p) = B.s p
  fB : ∀ p, p < B.n → G.f (A.n + p) = B.f p
theorem Sum.fromA (S : Sum A B G) {p r : Nat} {w : List Nat} (h : Path G p w r) (hp : p < A.n) : r < A.n := by
  rcases S.toBeh.part h.lt with z | ⟨q, hq, rfl⟩
  · exact z
  · obtain ⟨u, c, v, p', q', _, hc, h3, h4, h5, _⟩ := S.toBeh.cross hp h q hq rfl
    rw [S.no' c p' q' hc h3 h4] at h5
    omega
theorem Sum.uA (S : Sum A B G) (p : Nat) (hp : p < A.n) : Useful G p ↔ Useful A p := by
  constructor
  · rintro ⟨⟨a, ha, w, h1⟩, b, hb, u, h2⟩
    obtain ⟨l1, p1⟩ := S.toBeh.intoA h1 hp
    have l2 := S.fromA h2 hp
    exact ⟨⟨a, by rw [← S.sA a l1]; exact ha, w, p1⟩, b, by rw [← S.fA b l2]; exact hb, u, (S.toBeh.intoA h2 l2).2⟩
  · rintro ⟨⟨a, ha, h1⟩, b, hb, h2⟩
    exact ⟨⟨a, by rw [S.sA a h1.lt0]; exact ha, S.toBeh.EA.reach h1⟩, b, by rw [S.fA b h2.lt]; exact hb, S.toBeh.EA.reach h2⟩
theorem Sum.uB (S : Sum A B G) (p : Nat) (hp : p < B.n) : Useful G (A.n + p) ↔ Useful B p := by
  constructor
  · rintro ⟨⟨a, ha, w, h1⟩, b, hb, u, h2⟩
    have la : ∃ a', a' < B.n ∧ a = A.n + a' := by
      rcases S.toBeh.part h1.lt0 with z | z
      · have := S.fromA h1 z; omega
      · exact z
    obtain ⟨a', ha', rfl⟩ := la
    obtain ⟨p', e, q1⟩ := S.toBeh.fromB h1 ha'
    have e : p = p' := by omega
    subst e
    obtain ⟨b', rfl, q2⟩ := S.toBeh.fromB h2 hp
    exact ⟨⟨a', by rw [← S.sB a' ha']; exact ha, w, q1⟩, b', by rw [← S.fB b' q2.lt]; exact hb, u, q2⟩
  · rintro ⟨⟨a, ha, h1⟩, b, hb, h2⟩
    exact ⟨⟨A.n + a, by rw [S.sB a h1.lt0]; exact ha, S.toBeh.EB.reach h1⟩, A.n + b, by rw [S.fB b h2.lt]; exact hb, S.toBeh.EB.reach h2⟩
theorem Sum.levA (S : Sum A B G) {a m b : Nat} (h : Lev A a m b) : Lev G a m b := by
  induction h with
  | refl h => exact .refl ((S.uA _ h.lt).mpr h)
  | move _ k u ih => exact ih.move (S.toBeh.EA.reach k) ((S.uA _ u.lt).mpr u)
  | rise _ k ih => exact ih.rise (S.toBeh.EA.rise k ((S.uA _ k.2.1.lt).mpr k.2.1) ((S.uA _ k.2.2.1.lt).mpr k.2.2.1))
theorem Sum.levB (S : Sum A B G) {a m b : Nat} (h : Lev B a m b) : Lev G (A.n + a) m (A.n + b) := by
  induction h with
  | refl h => exact .refl ((S.uB _ h.lt).mpr h)
  | move _ k u ih => exact ih.move (S.toBeh.EB.reach k) ((S.uB _ u.lt).mpr u)
  | rise _ k ih => exact ih.rise (S.toBeh.EB.rise k ((S.uB _ k.2.1.lt).mpr k.2.1) ((S.uB _ k.2.2.1.lt).mpr k.2.2.1))
theorem Sum.kind (S : Sum A B G) {ka kb k : Int} (hA : KindIs A ka) (hB : KindIs B kb) (hG : KindIs G k) : k = if min ka kb < 0 then -1 else max ka kb := by
  have dA : ∀ p, Dbl A p → Dbl G p := fun p d => S.toBeh.EA.dbl d ((S.uA p d.1.lt).mpr d.1)
  have dB : ∀ p, Dbl B p → Dbl G (A.n + p) := fun p d => S.toBeh.EB.dbl d ((S.uB p d.1.lt).mpr d.1)
  have dG : ∀ p, Dbl G p → (∃ p, Dbl A p) ∨ ∃ p, Dbl B p := fun p d => by
    rcases S.toBeh.part d.1.lt with z | ⟨q, hq, rfl⟩
    · exact .inl ⟨p, S.toBeh.EA.dblc z d ((S.uA p z).mp d.1)⟩
    · exact .inr ⟨q, S.toBeh.EB.dblc hq d ((S.uB q hq).mp d.1)⟩
  by_cases hn : min ka kb < 0
  · rw [if_pos hn]
    have : k < 0 := by
      rw [hG.neg]
      have : ka < 0 ∨ kb < 0 := by omega
      rcases this with z | z
      · obtain ⟨p, d⟩ := hA.neg.mp z
        exact ⟨p, dA p d⟩
      · obtain ⟨p, d⟩ := hB.neg.mp z
        exact ⟨_, dB p d⟩
    have := hG.ge
    omega
  · rw [if_neg hn]
    have nA : NoDbl A := fun p d => by have := hA.neg.mpr ⟨p, d⟩; omega
    have nB : NoDbl B := fun p d => by have := hB.neg.mpr ⟨p, d⟩; omega
    have nG : NoDbl G := fun p d => by
      rcases dG p d with ⟨p, d⟩ | ⟨p, d⟩
      · exact nA p d
      · exact nB p d
    obtain ⟨mA, eA, lA⟩ := hA.get nA
    obtain ⟨mB, eB, lB⟩ := hB.get nB
    obtain ⟨m, e, l⟩ := hG.get nG
    have h1 : ka ≤ k := by
      rcases lA with z | ⟨a, b, l⟩
      · omega
      · have := hG.le nG (S.levA l); omega
    have h2 : kb ≤ k := by
      rcases lB with z | ⟨a, b, l⟩
      · omega
      · have := hG.le nG (S.levB l); omega
    have h3 : k ≤ max ka kb := by
      rcases l with z | ⟨a, b, l⟩
      · omega
      · have rr := l.reach
        rcases S.toBeh.lev (fun p hp u => (S.uA p hp).mp u) (fun q hq u => (S.uB q hq).mp u) l with ⟨_, _, l'⟩ | ⟨b', rfl, hb', ⟨a', _, _, l'⟩ | ⟨p, q, mA', mB', ha, _⟩⟩
        · have := hA.le nA l'; omega
        · have := hB.le nB l'; omega
        · obtain ⟨w, hw⟩ := rr
          have := S.fromA hw ha
          omega
    omega
end
end Gm
end
section
set_option linter.all false
set_option maxRecDepth 10000
/-! Kinds of graphs met and multiplied. -/
namespace Gm
variable {G A B : Gph}
/-! ### met -/
structure Met (A B G : Gph) : Prop extends Beh A B G where
  br : ∀ c p q, c ∈ G.L → p < A.n → q < B.n → (0 < G.e c p (A.n + q) ↔ (∃ r, r < A.n ∧ 0 < A.e c p r ∧ A.f r = true) ∧ B.s q = true)
  sA : ∀ p, p < A.n → G.s p = A.s p
  fA : ∀ p, p < A.n → G.f p = false
  sB : ∀ p, p < B.n → (G.s (A.n + p) = true ↔ (∃ r, r < A.n ∧ A.s r = true ∧ A.f r = true) ∧ B.s p = true)
  fB : ∀ p, p < B.n → G.f (A.n + p) = B.f p
section
theorem Met.uA (S : Met A B G) (p : Nat) (hp : p < A.n) (h : Useful G p) : Useful A p ∧ ∃ q, Useful B q := by
  obtain ⟨⟨a, ha, w, h1⟩, b, hb, u, h2⟩ := h
  obtain ⟨l1, p1⟩ := S.toBeh.intoA h1 hp
  rcases S.toBeh.part h2.lt with z | ⟨b', hb', rfl⟩
  · rw [S.fA b z] at hb; cases hb
  · obtain ⟨u1, c, v, p', q', k1, hc, k3, k4, k5, k6⟩ := S.toBeh.cross hp h2 b' hb' rfl
    obtain ⟨⟨r, hr, er, fr⟩, sq⟩ := (S.br c p' q' hc k3 k4).mp k5
    exact ⟨⟨⟨a, by rw [← S.sA a l1]; exact ha, w, p1⟩, r, fr, _, k1.snoc (S.LA ▸ hc) hr er⟩, q', ⟨⟨q', sq, .refl k4⟩, b', by rw [← S.fB b' hb']; exact hb, v, k6⟩⟩
theorem Met.uB (S : Met A B G) (q : Nat) (hq : q < B.n) (h : Useful G (A.n + q)) : Useful B q ∧ ∃ p, Useful A p := by
  obtain ⟨⟨a, ha, w, h1⟩, b, hb, u, h2⟩ := h
  obtain ⟨b', rfl, q2⟩ := S.toBeh.fromB h2 hq
  rw [S.fB b' q2.lt] at hb
  rcases S.toBeh.part h1.lt0 with z | ⟨a', ha', rfl⟩
  · obtain ⟨u1, c, v, p', q', k1, hc, k3, k4, k5, k6⟩ := S.toBeh.cross z h1 q hq rfl
    obtain ⟨⟨r, hr, er, fr⟩, sq⟩ := (S.br c p' q' hc k3 k4).mp k5
    exact ⟨⟨⟨q', sq, v, k6⟩, b', hb, u, q2⟩, a, ⟨a, by rw [← S.sA a z]; exact ha, .refl z⟩, r, fr, _, k1.snoc (S.LA ▸ hc) hr er⟩
  · obtain ⟨p', e, q1⟩ := S.toBeh.fromB h1 ha'
    have e : q = p' := by omega
    subst e
    obtain ⟨⟨r, hr, sr, fr⟩, sq⟩ := (S.sB a' ha').mp ha
    exact ⟨⟨⟨a', sq, w, q1⟩, b', hb, u, q2⟩, r, ⟨r, sr, .refl hr⟩, r, fr, .refl hr⟩
/-- a useful state of A on a loop -/
theorem Met.uA' (S : Met A B G) {p : Nat} (h : Useful A p) {w : List Nat} (hw : w ≠ []) (lp : Path A p w p) {q0 : Nat} (hq : Useful B q0) : Useful G p := by
  obtain ⟨⟨a, ha, h1⟩, b, hb, u, h2⟩ := h
  obtain ⟨⟨s, hs, h3⟩, f, hf, h4⟩ := hq
  have hl : w ++ u ≠ [] := by
    intro z
    exact hw (List.append_eq_nil_iff.mp z).1
  have pp := lp.app h2
  obtain ⟨v', c, e⟩ : ∃ v' c, w ++ u = v' ++ [c] := ⟨_, _, (List.dropLast_concat_getLast hl).symm⟩
  rw [e] at pp
  obtain ⟨r, k1, hc, k2, k3⟩ := pp.snoc_inv
  have hc' : c ∈ G.L := S.LA ▸ hc
  have cr : 0 < G.e c r (A.n + s) := (S.br c r s hc' k1.lt h3.lt0).mpr ⟨⟨b, h2.lt, k3, hb⟩, hs⟩
  have hn := S.toBeh.n
  refine ⟨⟨a, by rw [S.sA a h1.lt0]; exact ha, S.toBeh.EA.reach h1⟩, A.n + f, by rw [S.fB f h4.lt]; exact hf, ?_⟩
  have r1 : Reach G p (A.n + s) := ⟨_, (S.toBeh.EA.path k1).snoc hc' (by have := h3.lt0; omega) cr⟩
  exact r1.trans (S.toBeh.EB.reach (h3.trans h4))
theorem Met.uB' (S : Met A B G) {q : Nat} (h : Useful B q) {x : Nat} (hx : Useful A x) : Useful G (A.n + q) := by
  obtain ⟨⟨a, ha, h1⟩, b, hb, h2⟩ := h
  obtain ⟨⟨y, hy, g1⟩, z, hz, g2⟩ := hx
  have hn := S.toBeh.n
  have st : ∃ t, G.s t = true ∧ Reach G t (A.n + a) := by
    obtain ⟨w, hw⟩ := g1.trans g2
    by_cases e : w = []
    · subst e
      have e := hw.nil_eq
      subst e
      exact ⟨A.n + a, (S.sB a h1.lt0).mpr ⟨⟨y, hw.lt, hy, hz⟩, ha⟩, .refl (by have := h1.lt0; omega)⟩
    · obtain ⟨v', c, e⟩ : ∃ v' c, w = v' ++ [c] := ⟨_, _, (List.dropLast_concat_getLast e).symm⟩
      subst e
      obtain ⟨r, k1, hc, k2, k3⟩ := hw.snoc_inv
      have hc' : c ∈ G.L := S.LA ▸ hc
      have cr : 0 < G.e c r (A.n + a) := (S.br c r a hc' k1.lt h1.lt0).mpr ⟨⟨z, hw.lt, k3, hz⟩, ha⟩
      exact ⟨y, by rw [S.sA y hw.lt0]; exact hy, _, (S.toBeh.EA.path k1).snoc hc' (by have := h1.lt0; omega) cr⟩
  obtain ⟨t, ht, h3⟩ := st
  exact ⟨⟨t, ht, h3.trans (S.toBeh.EB.reach h1)⟩, A.n + b, by rw [S.fB b h2.lt]; exact hb, S.toBeh.EB.reach h2⟩
theorem Loop3.ne {w : List Nat} {p q : Nat} (h : Loop3 G w p q) (n : p ≠ q) : w ≠ [] := fun z => by
  subst z
  exact n h.2.1.nil_eq
theorem Met.levA (S : Met A B G) {q0 : Nat} (hq : Useful B q0) {a m b : Nat} (h : Lev A a m b) : m = 0 ∨ ∃ a0 q, Lev G a0 m q ∧ q < A.n ∧ Reach A q b := by
  induction h with
  | refl _ => exact .inl rfl
  | move _ k u ih =>
    rcases ih with z | ⟨a0, q, l, hq', r⟩
    · exact .inl z
    · exact .inr ⟨a0, q, l, hq', r.trans k⟩
  | @rise m p q h k ih =>
    obtain ⟨n, up, uq, w, l3⟩ := k
    have hw := l3.ne n
    have gp := S.uA' up hw l3.1 hq
    have gq := S.uA' uq hw l3.2.2 hq
    have k' := S.toBeh.EA.rise ⟨n, up, uq, w, l3⟩ gp gq
    rcases ih with rfl | ⟨a0, q1, l, hq', r⟩
    · exact .inr ⟨p, q, (Lev.refl gp).rise k', uq.lt, .refl uq.lt⟩
    · exact .inr ⟨a0, q, (l.move (S.toBeh.EA.reach r) gp).rise k', uq.lt, .refl uq.lt⟩
theorem Met.levB (S : Met A B G) {x : Nat} (hx : Useful A x) {a m b : Nat} (h : Lev B a m b) : Lev G (A.n + a) m (A.n + b) := by
  induction h with
  | refl h => exact .refl (S.uB' h hx)
  | move _ k u ih => exact ih.move (S.toBeh.EB.reach k) (S.uB' u hx)
  | rise _ k ih => exact ih.rise (S.toBeh.EB.rise k (S.uB' k.2.1 hx) (S.uB' k.2.2.1 hx))
theorem Met.dbl (S : Met A B G) : (∃ p, Dbl G p) ↔ ((∃ p, Dbl A p) ∧ ∃ q, Useful B q) ∨ ((∃ q, Dbl B q) ∧ ∃ p, Useful A p) := by
  constructor
  · rintro ⟨p, d⟩
    rcases S.toBeh.part d.1.lt with z | ⟨q, hq, rfl⟩
    · obtain ⟨u, k⟩ := S.uA p z d.1
      exact .inl ⟨⟨p, S.toBeh.EA.dblc z d u⟩, k⟩
    · obtain ⟨u, k⟩ := S.uB q hq d.1
      exact .inr ⟨⟨q, S.toBeh.EB.dblc hq d u⟩, k⟩
  · rintro (⟨⟨p, d⟩, q, hq⟩ | ⟨⟨q, d⟩, p, hp⟩)
    · obtain ⟨u, w, a⟩ := d
      exact ⟨p, S.toBeh.EA.dbl ⟨u, w, a⟩ (S.uA' u a.nonempty a.left hq)⟩
    · exact ⟨_, S.toBeh.EB.dbl d (S.uB' d.1 hp)⟩
theorem Met.kind (S : Met A B G) {ka kb k : Int} (hA : KindIs A ka) (hB : KindIs B kb) (hG : KindIs G k) :
    (k < 0 ↔ (ka < 0 ∧ ∃ q, Useful B q) ∨ (kb < 0 ∧ ∃ p, Useful A p)) ∧ (0 ≤ k → ((∃ q, Useful B q) → ka ≤ k) ∧ ((∃ p, Useful A p) → kb ≤ k) ∧ k ≤ max 0 ka + max 0 kb + 1) := by
  have dd : k < 0 ↔ (ka < 0 ∧ ∃ q, Useful B q) ∨ (kb < 0 ∧ ∃ p, Useful A p) := by rw [hG.neg, S.dbl, hA.neg, hB.neg]
  refine ⟨dd, fun hk => ?_⟩
  have nd : ¬ ((ka < 0 ∧ ∃ q, Useful B q) ∨ (kb < 0 ∧ ∃ p, Useful A p)) := fun z => by have := dd.mpr z; omega
  have nG : NoDbl G := fun p d => by have := hG.neg.mpr ⟨p, d⟩; omega
  refine ⟨fun ⟨q, hq⟩ => ?_, fun ⟨p, hp⟩ => ?_, ?_⟩
  · have h0 : 0 ≤ ka := Int.not_lt.mp fun z => nd (.inl ⟨z, q, hq⟩)
    have nA : NoDbl A := fun p d => by have := hA.neg.mpr ⟨p, d⟩; omega
    obtain ⟨m, rfl, l⟩ := hA.get nA
    rcases l with z | ⟨a, b, l⟩
    · omega
    · rcases S.levA hq l with z | ⟨a0, q1, l', _⟩
      · omega
      · exact hG.le nG l'
  · have h0 : 0 ≤ kb := Int.not_lt.mp fun z => nd (.inr ⟨z, p, hp⟩)
    have nB : NoDbl B := fun p d => by have := hB.neg.mpr ⟨p, d⟩; omega
    obtain ⟨m, rfl, l⟩ := hB.get nB
    rcases l with z | ⟨a, b, l⟩
    · omega
    · exact hG.le nG (S.levB hp l)
  · obtain ⟨m, rfl, l⟩ := hG.get nG
    rcases l with z | ⟨a, b, l⟩
    · omega
    · have both : (∃ p, Useful A p) ∧ ∃ q, Useful B q := by
        rcases S.toBeh.part l.use.lt with z | ⟨q, hq, e⟩
        · have := S.uA b z l.use
          exact ⟨⟨_, this.1⟩, this.2⟩
        · have u := l.use
          rw [e] at u
          have := S.uB q hq u
          exact ⟨this.2, _, this.1⟩
      have h1 : 0 ≤ ka := Int.not_lt.mp fun z => nd (.inl ⟨z, both.2⟩)
      have h2 : 0 ≤ kb := Int.not_lt.mp fun z => nd (.inr ⟨z, both.1⟩)
      have nA : NoDbl A := fun p d => by have := hA.neg.mpr ⟨p, d⟩; omega
      have nB : NoDbl B := fun p d => by have := hB.neg.mpr ⟨p, d⟩; omega
      rcases S.toBeh.lev (fun p hp u => (S.uA p hp u).1) (fun q hq u => (S.uB q hq u).1) l with ⟨_, _, l'⟩ | ⟨b', rfl, hb', ⟨a', _, _, l'⟩ | ⟨p, q, mA', mB', ha, l1, l2, hm⟩⟩
      · have := hA.le nA l'; omega
      · have := hB.le nB l'; omega
      · have := hA.le nA l1
        have := hB.le nB l2
        omega
end

/-! ### multiplied -/
structure Prod (A B G : Gph) (f g : Nat → Nat) : Prop where
  LA : A.L = G.L
  LB : B.L = G.L
  lA : ∀ r, r < G.n → f r < A.n
  lB : ∀ r, r < G.n → g r < B.n
  inj : ∀ r r', r < G.n → r' < G.n → f r = f r' → g r = g r' → r = r'
  sur : ∀ p q, p < A.n → q < B.n → ∃ r, r < G.n ∧ f r = p ∧ g r = q
  e : ∀ c r r', c ∈ G.L → r < G.n → r' < G.n → G.e c r r' = A.e c (f r) (f r') * B.e c (g r) (g r')
  s : ∀ r, r < G.n → G.s r = (A.s (f r) && B.s (g r))
  ff : ∀ r, r < G.n → G.f r = (A.f (f r) && B.f (g r))
section
variable {f g : Nat → Nat}
theorem one_lt_mul4 {a b c d : Nat} (ha : 0 < a) (hb : 0 < b) (hc : 0 < c) (hd : 0 < d) : decide (1 < (a * b) * (c * d)) = (decide (1 < a * c) || decide (1 < b * d)) := by
  have e : (a * b) * (c * d) = (a * c) * (b * d) := by
    rw [Nat.mul_assoc, Nat.mul_left_comm b c d, ← Nat.mul_assoc, ← Nat.mul_assoc, Nat.mul_assoc (a * c)]
  rw [e]
  have h1 : 0 < a * c := Nat.mul_pos ha hc
  have h2 : 0 < b * d := Nat.mul_pos hb hd
  generalize a * c = u at h1 ⊢
  generalize b * d = v at h2 ⊢
  by_cases z : 1 < u
  · have : 1 < u * v := Nat.lt_of_lt_of_le z (Nat.le_mul_of_pos_right _ h2)
    simp [z, this]
  · have : u = 1 := by omega
    subst this
    simp
theorem Prod.pw (S : Prod A B G f g) {x y x1 y1 : Nat} {w : List Nat} {b : Bool} (h : PW G x y w x1 y1 b) : ∃ b1 b2, PW A (f x) (f y) w (f x1) (f y1) b1 ∧ PW B (g x) (g y) w (g x1) (g y1) b2 ∧ b = (b1 || b2) := by
  induction h with
  | nil h h' => exact ⟨false, false, .nil (S.lA _ h) (S.lA _ h'), .nil (S.lB _ h) (S.lB _ h'), rfl⟩
  | @snoc w x1 y1 x2 y2 c b h hc h1 h2 e1 e2 ih =>
    obtain ⟨b1, b2, p1, p2, rfl⟩ := ih
    have l1 := h.left.lt
    have l2 := h.right.lt
    have a1 := S.e c x1 x2 hc l1 h1
    have a2 := S.e c y1 y2 hc l2 h2
    rw [a1] at e1
    rw [a2] at e2
    have u1 := Nat.pos_of_mul_pos_right e1
    have v1 := Nat.pos_of_mul_pos_left e1
    have u2 := Nat.pos_of_mul_pos_right e2
    have v2 := Nat.pos_of_mul_pos_left e2
    refine ⟨_, _, p1.snoc (S.LA ▸ hc) (S.lA _ h1) (S.lA _ h2) u1 u2, p2.snoc (S.LB ▸ hc) (S.lB _ h1) (S.lB _ h2) v1 v2, ?_⟩
    rw [a1, a2, one_lt_mul4 u1 v1 u2 v2]
    have q : decide (x2 ≠ y2) = (decide (f x2 ≠ f y2) || decide (g x2 ≠ g y2)) := by
      by_cases z : x2 = y2
      · simp [z]
      · by_cases z1 : f x2 = f y2
        · have : ¬ g x2 = g y2 := fun z2 => z (S.inj _ _ h1 h2 z1 z2)
          simp [z, z1, this]
        · simp [z, z1]
    rw [q]
    generalize decide (f x2 ≠ f y2) = p3
    generalize decide (g x2 ≠ g y2) = p4
    generalize decide (1 < A.e c (f x1) (f x2) * A.e c (f y1) (f y2)) = p5
    generalize decide (1 < B.e c (g x1) (g x2) * B.e c (g y1) (g y2)) = p6
    cases b1 <;> cases b2 <;> cases p3 <;> cases p4 <;> cases p5 <;> cases p6 <;> rfl
theorem Prod.pwc (S : Prod A B G f g) {p1 p2 q1 q2 : Nat} {w : List Nat} {b1 : Bool} (h : PW A p1 p2 w q1 q2 b1) : ∀ {p1' p2' q1' q2' : Nat} {b2 : Bool}, PW B p1' p2' w q1' q2' b2 → ∀ {x y x1 y1 : Nat}, x < G.n → y < G.n → x1 < G.n → y1 < G.n → f x = p1 → f y = p2 → f x1 = q1 → f y1 = q2 → g x = p1' → g y = p2' → g x1 = q1' → g y1 = q2' → PW G x y w x1 y1 (b1 || b2) := by
  induction h with
  | nil h h' =>
    intro p1' p2' q1' q2' b2 k x y x1 y1 hx hy hx1 hy1 e1 e2 e3 e4 e5 e6 e7 e8
    generalize hw : ([] : List Nat) = u at k
    cases k with
    | nil _ _ =>
      have := S.inj x x1 hx hx1 (by rw [e1, e3]) (by rw [e5, e7])
      subst this
      have := S.inj y y1 hy hy1 (by rw [e2, e4]) (by rw [e6, e8])
      subst this
      exact .nil hx hy
    | snoc _ _ _ _ _ _ => simp at hw
  | @snoc w s1 s2 q1 q2 c b1 h hc h1 h2 a1 a2 ih =>
    intro p1' p2' q1' q2' b2 k x y x1 y1 hx hy hx1 hy1 e1 e2 e3 e4 e5 e6 e7 e8
    generalize hw : w ++ [c] = u at k
    cases k with
    | nil _ _ => simp at hw
    | @snoc w' t1 t2 _ _ c' b2 k hc' k1 k2 d1 d2 =>
      obtain ⟨rfl, hcc⟩ := List.append_inj' hw rfl
      cases hcc
      obtain ⟨r1, hr1, f1, g1⟩ := S.sur s1 t1 h.left.lt k.left.lt
      obtain ⟨r2, hr2, f2, g2⟩ := S.sur s2 t2 h.right.lt k.right.lt
      have ih' := ih k hx hy hr1 hr2 e1 e2 f1 f2 e5 e6 g1 g2
      have hcG : c ∈ G.L := S.LA ▸ hc
      have m1 := S.e c r1 x1 hcG hr1 hx1
      have m2 := S.e c r2 y1 hcG hr2 hy1
      rw [f1, g1, e3, e7] at m1
      rw [f2, g2, e4, e8] at m2
      have st := ih'.snoc hcG hx1 hy1 (by rw [m1]; exact Nat.mul_pos a1 d1) (by rw [m2]; exact Nat.mul_pos a2 d2)
      rw [m1, m2, one_lt_mul4 a1 d1 a2 d2] at st
      have q : decide (x1 ≠ y1) = (decide (q1 ≠ q2) || decide (q1' ≠ q2')) := by
        by_cases z : x1 = y1
        · subst z
          have : q1 = q2 := by rw [← e3, e4]
          have : q1' = q2' := by rw [← e7, e8]
          simp [*]
        · by_cases z1 : q1 = q2
          · have : ¬ q1' = q2' := fun z2 => z (S.inj _ _ hx1 hy1 (by rw [e3, e4, z1]) (by rw [e7, e8, z2]))
            simp [z, z1, this]
          · simp [z, z1]
      rw [q] at st
      revert st
      generalize decide (q1 ≠ q2) = p3
      generalize decide (q1' ≠ q2') = p4
      generalize decide (1 < A.e c s1 q1 * A.e c s2 q2) = p5
      generalize decide (1 < B.e c t1 q1' * B.e c t2 q2') = p6
      intro st
      have : (b1 || b2 || (p3 || p4) || (p5 || p6)) = (b1 || p3 || p5 || (b2 || p4 || p6)) := by
        cases b1 <;> cases b2 <;> cases p3 <;> cases p4 <;> cases p5 <;> cases p6 <;> rfl
      rw [← this]
      exact st
theorem Prod.path (S : Prod A B G f g) {x y : Nat} {w : List Nat} (h : Path G x w y) : Path A (f x) w (f y) ∧ Path B (g x) w (g y) := by
  obtain ⟨_, hp⟩ := PW.of h h
  obtain ⟨_, _, p1, p2, _⟩ := S.pw hp
  exact ⟨p1.left, p2.left⟩
theorem Prod.pathc (S : Prod A B G f g) {x y : Nat} {w : List Nat} (hx : x < G.n) (hy : y < G.n) (h : Path A (f x) w (f y)) (k : Path B (g x) w (g y)) : Path G x w y := by
  obtain ⟨_, p1⟩ := PW.of h h
  obtain ⟨_, p2⟩ := PW.of k k
  exact (S.pwc p1 p2 hx hx hy hy rfl rfl rfl rfl rfl rfl rfl rfl).left
theorem Prod.reach (S : Prod A B G f g) {x y : Nat} (h : Reach G x y) : Reach A (f x) (f y) ∧ Reach B (g x) (g y) := let ⟨w, a⟩ := h; ⟨⟨w, (S.path a).1⟩, w, (S.path a).2⟩
theorem Prod.use (S : Prod A B G f g) {x : Nat} (h : Useful G x) : Useful A (f x) ∧ Useful B (g x) := by
  obtain ⟨⟨a, ha, h1⟩, b, hb, h2⟩ := h
  rw [S.s a h1.lt0, Bool.and_eq_true] at ha
  rw [S.ff b h2.lt, Bool.and_eq_true] at hb
  exact ⟨⟨⟨_, ha.1, (S.reach h1).1⟩, _, hb.1, (S.reach h2).1⟩, ⟨_, ha.2, (S.reach h1).2⟩, _, hb.2, (S.reach h2).2⟩
theorem Prod.dbl (S : Prod A B G f g) {x : Nat} (h : Dbl G x) : Dbl A (f x) ∨ Dbl B (g x) := by
  obtain ⟨u, w, a⟩ := h
  obtain ⟨b1, b2, p1, p2, e⟩ := S.pw a
  obtain ⟨u1, u2⟩ := S.use u
  cases b1 with
  | true => exact .inl ⟨u1, w, p1⟩
  | false =>
    cases b2 with
    | true => exact .inr ⟨u2, w, p2⟩
    | false => cases e
theorem Prod.lev (S : Prod A B G f g) {a m b : Nat} (h : Lev G a m b) : ∃ m1 m2, Lev A (f a) m1 (f b) ∧ Lev B (g a) m2 (g b) ∧ m ≤ m1 + m2 := by
  induction h with
  | refl h => exact ⟨0, 0, .refl (S.use h).1, .refl (S.use h).2, Nat.le_refl _⟩
  | move _ k u ih =>
    obtain ⟨m1, m2, l1, l2, hm⟩ := ih
    exact ⟨m1, m2, l1.move (S.reach k).1 (S.use u).1, l2.move (S.reach k).2 (S.use u).2, hm⟩
  | @rise m p q h k ih =>
    obtain ⟨m1, m2, l1, l2, hm⟩ := ih
    obtain ⟨n, up, uq, w, a, b, c⟩ := k
    by_cases z : f p = f q
    · have z2 : g p ≠ g q := fun z2 => n (S.inj _ _ up.lt uq.lt z z2)
      refine ⟨m1, m2 + 1, ?_, l2.rise ⟨z2, (S.use up).2, (S.use uq).2, w, (S.path a).2, (S.path b).2, (S.path c).2⟩, by omega⟩
      rw [← z]; exact l1
    · have r1 : Lev A (f _) (m1 + 1) (f q) := l1.rise ⟨z, (S.use up).1, (S.use uq).1, w, (S.path a).1, (S.path b).1, (S.path c).1⟩
      exact ⟨m1 + 1, m2, r1, l2.move (S.reach ⟨w, b⟩).2 (S.use uq).2, by omega⟩
/-- neither doubles: at most the sum -/
theorem Prod.kind (S : Prod A B G f g) {ka kb k : Int} (hA : KindIs A ka) (hB : KindIs B kb) (hG : KindIs G k) (h : 0 ≤ min ka kb) : 0 ≤ k ∧ k ≤ ka + kb := by
  have nA : NoDbl A := fun p d => by have := hA.neg.mpr ⟨p, d⟩; omega
  have nB : NoDbl B := fun p d => by have := hB.neg.mpr ⟨p, d⟩; omega
  have nG : NoDbl G := fun p d => by
    rcases S.dbl d with d | d
    · exact nA _ d
    · exact nB _ d
  obtain ⟨m, rfl, l⟩ := hG.get nG
  rcases l with z | ⟨a, b, l⟩
  · omega
  · obtain ⟨m1, m2, l1, l2, hm⟩ := S.lev l
    have := hA.le nA l1
    have := hB.le nB l2
    omega
end
section
variable {f g : Nat → Nat}
theorem Prod.diag (S : Prod A A G f g) {p : Nat} (hp : p < A.n) : ∃ r, r < G.n ∧ f r = p ∧ g r = p := S.sur p p hp hp
theorem Prod.useD (S : Prod A A G f g) {p r : Nat} (h : Useful A p) (hr : r < G.n) (e1 : f r = p) (e2 : g r = p) : Useful G r := by
  obtain ⟨⟨a, ha, w, h1⟩, b, hb, u, h2⟩ := h
  obtain ⟨ra, hra, a1, a2⟩ := S.diag h1.lt0
  obtain ⟨rb, hrb, b1, b2⟩ := S.diag h2.lt
  refine ⟨⟨ra, by rw [S.s ra hra, a1, a2, ha]; rfl, w, ?_⟩, rb, by rw [S.ff rb hrb, b1, b2, hb]; rfl, u, ?_⟩
  · exact S.pathc hra hr (by rw [a1, e1]; exact h1) (by rw [a2, e2]; exact h1)
  · exact S.pathc hr hrb (by rw [b1, e1]; exact h2) (by rw [b2, e2]; exact h2)
theorem Prod.dblD (S : Prod A A G f g) {p : Nat} (h : Dbl A p) : ∃ r, Dbl G r := by
  obtain ⟨u, w, a⟩ := h
  obtain ⟨r, hr, e1, e2⟩ := S.diag u.lt
  exact ⟨r, S.useD u hr e1 e2, w, S.pwc a a hr hr hr hr e1 e1 e1 e1 e2 e2 e2 e2⟩
theorem Prod.levD (S : Prod A A G f g) {a m b : Nat} (h : Lev A a m b) : ∀ ra, ra < G.n → f ra = a → g ra = a → ∃ rb, rb < G.n ∧ f rb = b ∧ g rb = b ∧ Lev G ra (2 * m) rb := by
  induction h with
  | refl h => exact fun ra hra e1 e2 => ⟨ra, hra, e1, e2, .refl (S.useD h hra e1 e2)⟩
  | move _ k u ih =>
    intro ra hra e1 e2
    obtain ⟨rb, hrb, b1, b2, l⟩ := ih ra hra e1 e2
    obtain ⟨rc, hrc, c1, c2⟩ := S.diag u.lt
    obtain ⟨w, hw⟩ := k
    exact ⟨rc, hrc, c1, c2, l.move ⟨w, S.pathc hrb hrc (by rw [b1, c1]; exact hw) (by rw [b2, c2]; exact hw)⟩ (S.useD u hrc c1 c2)⟩
  | @rise m p q h k ih =>
    intro ra hra e1 e2
    obtain ⟨rb, hrb, b1, b2, l⟩ := ih ra hra e1 e2
    obtain ⟨n, up, uq, w, x1, x2, x3⟩ := k
    obtain ⟨rq, hrq, q1, q2⟩ := S.diag uq.lt
    obtain ⟨rm, hrm, m1, m2⟩ := S.sur p q up.lt uq.lt
    have ub := S.useD up hrb b1 b2
    have uu := S.useD uq hrq q1 q2
    have pbm : Path G rb w rm := S.pathc hrb hrm (by rw [b1, m1]; exact x1) (by rw [b2, m2]; exact x2)
    have pmm : Path G rm w rm := S.pathc hrm hrm (by rw [m1]; exact x1) (by rw [m2]; exact x3)
    have pmq : Path G rm w rq := S.pathc hrm hrq (by rw [m1, q1]; exact x2) (by rw [m2, q2]; exact x3)
    have pbb : Path G rb w rb := S.pathc hrb hrb (by rw [b1]; exact x1) (by rw [b2]; exact x1)
    have pqq : Path G rq w rq := S.pathc hrq hrq (by rw [q1]; exact x3) (by rw [q2]; exact x3)
    have um := ub.mid uu ⟨w, pbm⟩ ⟨w, pmq⟩
    have n1 : rb ≠ rm := fun z => n (by rw [← b2, z, m2])
    have n2 : rm ≠ rq := fun z => n (by rw [← m1, z, q1])
    have l2 := (l.rise ⟨n1, ub, um, w, pbb, pbm, pmm⟩).rise ⟨n2, um, uu, w, pmm, pmq, pqq⟩
    exact ⟨rq, hrq, q1, q2, by rw [show 2 * (m + 1) = 2 * m + 1 + 1 by omega]; exact l2⟩
/-- by itself -/
theorem Prod.kindD (S : Prod A A G f g) {ka k : Int} (hA : KindIs A ka) (hG : KindIs G k) : k = if ka < 0 then -1 else 2 * ka := by
  by_cases h : ka < 0
  · rw [if_pos h]
    obtain ⟨p, d⟩ := hA.neg.mp h
    have := hG.neg.mpr (S.dblD d)
    have := hG.ge
    omega
  · rw [if_neg h]
    have h0 : 0 ≤ min ka ka := by omega
    obtain ⟨k0, k1⟩ := S.kind hA hA hG h0
    have nA : NoDbl A := fun p d => by have := hA.neg.mpr ⟨p, d⟩; omega
    have nG : NoDbl G := fun p d => by have := hG.neg.mpr ⟨p, d⟩; omega
    obtain ⟨m, rfl, l⟩ := hA.get nA
    rcases l with z | ⟨a, b, l⟩
    · omega
    · obtain ⟨ra, hra, e1, e2⟩ := S.diag l.use0.lt
      obtain ⟨rb, _, _, _, l'⟩ := S.levD l ra hra e1 e2
      have := hG.le nG l'
      omega
end
end Gm
end
section
set_option linter.all false
set_option maxRecDepth 10000
/-! Searches: breadth first with texts; closures. -/
namespace Gm
theorem len_le_of_sub {α : Type} [DecidableEq α] : ∀ {l u : List α}, l.Nodup → (∀ x ∈ l, x ∈ u) → l.length ≤ u.length
  | [], _, _, _ => Nat.zero_le _
  | x :: l, u, nd, h => by
    obtain ⟨n1, n2⟩ := List.nodup_cons.mp nd
    have hx := h x List.mem_cons_self
    have ih := len_le_of_sub (l := l) (u := u.erase x) n2 fun y hy => (List.mem_erase_of_ne (a := y) (b := x) (fun z => n1 (by rw [← z]; exact hy))).mpr (h y (List.mem_cons_of_mem _ hy))
    rw [List.length_erase_of_mem hx] at ih
    have : 0 < u.length := List.length_pos_of_mem hx
    rw [List.length_cons]
    omega
section
variable {α : Type} [DecidableEq α]
def known (ns : List (α × List Nat)) (q : α) : Bool := ns.any fun z => decide (z.1 = q)
theorem known_iff {ns : List (α × List Nat)} {q : α} : known ns q = true ↔ q ∈ ns.map (·.1) := by
  unfold known
  rw [List.any_eq_true, List.mem_map]
  exact ⟨fun ⟨z, h, e⟩ => ⟨z, h, by simpa using e⟩, fun ⟨z, h, e⟩ => ⟨z, h, by simpa using e⟩⟩
def bfsIn (eg : α → Bool) (txt : List Nat) : List (Nat × α) → List (α × List Nat) → Option (List Nat) × List (α × List Nat)
  | [], ns => (none, ns)
  | (c, q) :: es, ns => if eg q then (some (txt ++ [c]), ns) else if known ns q then bfsIn eg txt es ns else bfsIn eg txt es (ns ++ [(q, txt ++ [c])])
def bfs (pg eg : α → Bool) (succ : α → List (Nat × α)) : Nat → List (α × List Nat) → Nat → Option (List Nat)
  | 0, _, _ => none
  | fuel + 1, ns, at' => match ns[at']? with
    | none => none
    | some (h, txt) => if pg h then some txt else match bfsIn eg txt (succ h) ns with
      | (some r, _) => some r
      | (none, ns') => bfs pg eg succ fuel ns' (at' + 1)
inductive Wk (succ : α → List (Nat × α)) (p : α) : List Nat → α → Prop
  | nil : Wk succ p [] p
  | snoc {w : List Nat} {q r : α} {c : Nat} (h : Wk succ p w q) (k : (c, r) ∈ succ q) : Wk succ p (w ++ [c]) r
variable {pg eg : α → Bool} {succ : α → List (Nat × α)}
def Sound (succ : α → List (Nat × α)) (S : List α) (ns : List (α × List Nat)) : Prop := ∀ q t, (q, t) ∈ ns → ∃ p ∈ S, Wk succ p t q
theorem bfsIn_sound {S : List α} {h : α} {txt : List Nat} (hh : ∃ p ∈ S, Wk succ p txt h) : ∀ (es : List (Nat × α)) (ns : List (α × List Nat)), (∀ z ∈ es, z ∈ succ h) → Sound succ S ns →
    Sound succ S (bfsIn eg txt es ns).2 ∧ ∀ r, (bfsIn eg txt es ns).1 = some r → ∃ c q, r = txt ++ [c] ∧ (c, q) ∈ succ h ∧ eg q = true
  | [], ns, _, hs => ⟨hs, fun r e => by cases e⟩
  | (c, q) :: es, ns, hes, hs => by
    have h0 := hes _ List.mem_cons_self
    have h1 : ∀ z ∈ es, z ∈ succ h := fun z hz => hes z (List.mem_cons_of_mem _ hz)
    unfold bfsIn
    split
    · exact ⟨hs, fun r e => ⟨c, q, by simpa using e.symm, h0, by assumption⟩⟩
    · split
      · exact bfsIn_sound hh es ns h1 hs
      · refine bfsIn_sound hh es _ h1 fun q' t' hm => ?_
        rcases List.mem_append.mp hm with z | z
        · exact hs q' t' z
        · simp at z
          obtain ⟨rfl, rfl⟩ := z
          obtain ⟨p, hp, w⟩ := hh
          exact ⟨p, hp, w.snoc h0⟩
theorem bfs_sound {S : List α} : ∀ (fuel : Nat) (ns : List (α × List Nat)) (at' : Nat) (w : List Nat), Sound succ S ns → bfs pg eg succ fuel ns at' = some w →
    (∃ p ∈ S, ∃ q, pg q = true ∧ Wk succ p w q) ∨ ∃ p ∈ S, ∃ q c r w', w = w' ++ [c] ∧ Wk succ p w' q ∧ (c, r) ∈ succ q ∧ eg r = true
  | 0, _, _, _, _, e => by cases e
  | fuel + 1, ns, at', w, hs, e => by
    unfold bfs at e
    split at e
    · cases e
    · rename_i h txt hn
      have hm := List.mem_of_getElem? hn
      have hh := hs h txt hm
      split at e
      · cases e
        obtain ⟨p, hp, w⟩ := hh
        exact .inl ⟨p, hp, h, by assumption, w⟩
      · obtain ⟨s1, s2⟩ := bfsIn_sound (eg := eg) hh (succ h) ns (fun z hz => hz) hs
        split at e
        · rename_i r ns' hb
          cases e
          rw [hb] at s2
          obtain ⟨c, q, e1, e2, e3⟩ := s2 w rfl
          obtain ⟨p, hp, w0⟩ := hh
          exact .inr ⟨p, hp, h, c, q, txt, e1, w0, e2, e3⟩
        · rename_i ns' hb
          rw [hb] at s1
          exact bfs_sound fuel ns' (at' + 1) w s1 e
/-- what the search keeps: nodes once, within U, texts no longer than the place -/
structure Kp (U : List α) (ns : List (α × List Nat)) : Prop where
  nd : (ns.map (·.1)).Nodup
  sub : ∀ q ∈ ns.map (·.1), q ∈ U
  txt : ∀ (j : Nat) (q : α) (t : List Nat), ns[j]? = some (q, t) → t.length ≤ j
theorem Kp.len {U : List α} {ns : List (α × List Nat)} (K : Kp U ns) : ns.length ≤ U.length := by
  have := len_le_of_sub K.nd K.sub
  simpa using this
theorem Kp.snoc {U : List α} {ns : List (α × List Nat)} (K : Kp U ns) {q : α} {t : List Nat} (hq : q ∈ U) (hk : known ns q = false) (ht : t.length ≤ ns.length) : Kp U (ns ++ [(q, t)]) := by
  have no : q ∉ ns.map (·.1) := fun z => by rw [known_iff.mpr z] at hk; cases hk
  refine ⟨?_, fun r hr => ?_, fun j r u e => ?_⟩
  · rw [List.map_append, List.nodup_append]
    refine ⟨K.nd, by simp, fun a ha b hb => ?_⟩
    have : b = q := by simpa using hb
    subst this
    exact fun z => no (z ▸ ha)
  · rw [List.map_append] at hr
    rcases List.mem_append.mp hr with z | z
    · exact K.sub r z
    · have : r = q := by simpa using z
      rw [this]; exact hq
  · rcases Nat.lt_trichotomy j ns.length with z | z | z
    · rw [List.getElem?_append_left z] at e
      exact K.txt j r u e
    · subst z
      rw [List.getElem?_append_right (Nat.le_refl _), Nat.sub_self] at e
      simp at e
      rw [← e.2]; exact ht
    · rw [List.getElem?_eq_none (by rw [List.length_append]; simp; omega)] at e
      cases e
theorem bfsIn_keep {U : List α} {txt : List Nat} : ∀ (es : List (Nat × α)) (ns : List (α × List Nat)), Kp U ns → (∀ z ∈ es, z.2 ∈ U) → txt.length + 1 ≤ ns.length →
    Kp U (bfsIn eg txt es ns).2 ∧ ns.length ≤ (bfsIn eg txt es ns).2.length ∧ (∀ z ∈ ns, z ∈ (bfsIn eg txt es ns).2) ∧ (∀ (j : Nat) z, ns[j]? = some z → (bfsIn eg txt es ns).2[j]? = some z) ∧ ((bfsIn eg txt es ns).1 = none → ∀ z ∈ es, eg z.2 = false ∧ z.2 ∈ (bfsIn eg txt es ns).2.map (·.1))
  | [], ns, K, _, _ => ⟨K, Nat.le_refl _, fun z h => h, fun _ _ h => h, fun _ z h => by simp at h⟩
  | (c, q) :: es, ns, K, hU, ht => by
    have h1 : ∀ z ∈ es, z.2 ∈ U := fun z hz => hU z (List.mem_cons_of_mem _ hz)
    unfold bfsIn
    split
    · exact ⟨K, Nat.le_refl _, fun z h => h, fun _ _ h => h, fun e => by cases e⟩
    · rename_i hg
      have hg : eg q = false := by simpa using hg
      split
      · rename_i hk
        obtain ⟨a, b, c', d, e⟩ := bfsIn_keep es ns K h1 ht
        refine ⟨a, b, c', d, fun en z hz => ?_⟩
        rcases List.mem_cons.mp hz with y | y
        · subst y
          obtain ⟨w, hw, ew⟩ := List.mem_map.mp (known_iff.mp hk)
          exact ⟨hg, List.mem_map.mpr ⟨w, c' w hw, ew⟩⟩
        · exact e en z y
      · rename_i hk
        have hk : known ns q = false := by simpa using hk
        have K2 : Kp U (ns ++ [(q, txt ++ [c])]) := K.snoc (t := txt ++ [c]) (hU (c, q) List.mem_cons_self) hk (by simpa using ht)
        obtain ⟨a, b, c', d, e⟩ := bfsIn_keep (txt := txt) es (ns ++ [(q, txt ++ [c])]) K2 h1 (by rw [List.length_append, List.length_singleton]; omega)
        refine ⟨a, by rw [List.length_append] at b; omega, fun z hz => c' z (List.mem_append_left _ hz), fun j z hz => d j z (by rw [List.getElem?_append_left (List.getElem?_eq_some_iff.mp hz).1]; exact hz), fun en z hz => ?_⟩
        rcases List.mem_cons.mp hz with y | y
        · subst y
          exact ⟨hg, List.mem_map.mpr ⟨(q, txt ++ [c]), c' _ (by simp), rfl⟩⟩
        · exact e en z y
theorem bfs_complete {U : List α} (hU : ∀ q ∈ U, ∀ z ∈ succ q, z.2 ∈ U) : ∀ (fuel : Nat) (ns : List (α × List Nat)) (at' : Nat), Kp U ns → at' ≤ ns.length → fuel + at' = U.length + 1 →
    (∀ (j : Nat) (q : α) (t : List Nat), j < at' → ns[j]? = some (q, t) → pg q = false ∧ ∀ z ∈ succ q, eg z.2 = false ∧ z.2 ∈ ns.map (·.1)) → bfs pg eg succ fuel ns at' = none →
    ∃ ns' : List (α × List Nat), (∀ z ∈ ns, z ∈ ns') ∧ ∀ q ∈ ns'.map (·.1), pg q = false ∧ ∀ z ∈ succ q, eg z.2 = false ∧ z.2 ∈ ns'.map (·.1)
  | 0, ns, at', K, hat, hf, _, _ => by have := K.len; omega
  | fuel + 1, ns, at', K, hat, hf, hI, e => by
    unfold bfs at e
    split at e
    · rename_i hn
      have hl : ns.length ≤ at' := by
        rcases Nat.lt_or_ge at' ns.length with z | z
        · rw [List.getElem?_eq_getElem z] at hn; cases hn
        · exact z
      refine ⟨ns, fun z h => h, fun q hq => ?_⟩
      obtain ⟨w, hw, ew⟩ := List.mem_map.mp hq
      obtain ⟨j, hj⟩ := List.mem_iff_getElem?.mp hw
      have := (List.getElem?_eq_some_iff.mp hj).1
      obtain ⟨q0, t0⟩ := w
      subst ew
      exact hI j q0 t0 (by omega) hj
    · rename_i h txt hn
      have hlt := (List.getElem?_eq_some_iff.mp hn).1
      split at e
      · cases e
      · rename_i hpg
        have hpg : pg h = false := by simpa using hpg
        have hm : h ∈ ns.map (·.1) := List.mem_map.mpr ⟨(h, txt), List.mem_of_getElem? hn, rfl⟩
        have htx := K.txt at' h txt hn
        obtain ⟨a, b, c', d, ee⟩ := bfsIn_keep (eg := eg) (txt := txt) (succ h) ns K (hU h (K.sub h hm)) (by omega)
        split at e
        · cases e
        · rename_i ns' hb
          rw [hb] at a b c' d ee
          obtain ⟨ns2, g1, g2⟩ := bfs_complete hU fuel ns' (at' + 1) a (by have : ns.length ≤ ns'.length := b; omega) (by omega) (fun j q t hj hq => by
            rcases Nat.lt_or_ge j at' with z | z
            · obtain ⟨w, hw⟩ : ∃ w, ns[j]? = some w := ⟨ns[j]'(by omega), List.getElem?_eq_getElem (by omega)⟩
              have := d j w hw
              rw [hq] at this
              cases this
              obtain ⟨i1, i2⟩ := hI j q t z hw
              exact ⟨i1, fun z hz => ⟨(i2 z hz).1, by
                obtain ⟨w, hw, ew⟩ := List.mem_map.mp (i2 z hz).2
                exact List.mem_map.mpr ⟨w, c' w hw, ew⟩⟩⟩
            · have : j = at' := by omega
              subst this
              have := d j (h, txt) hn
              rw [hq] at this
              cases this
              exact ⟨hpg, fun z hz => ee rfl z hz⟩) e
          exact ⟨ns2, fun z hz => g1 z (c' z hz), g2⟩
/-- nothing found: nothing there -/
theorem bfs_none {U S : List α} (hU : ∀ q ∈ U, ∀ z ∈ succ q, z.2 ∈ U) {ns : List (α × List Nat)} (K : Kp U ns) (hS : ∀ p ∈ S, p ∈ ns.map (·.1)) (e : bfs pg eg succ (U.length + 1) ns 0 = none) {p : α} (hp : p ∈ S) {w : List Nat} {q : α} (h : Wk succ p w q) :
    pg q = false ∧ ∀ z ∈ succ q, eg z.2 = false := by
  obtain ⟨ns', g1, g2⟩ := bfs_complete hU (U.length + 1) ns 0 K (Nat.zero_le _) (by omega) (fun j _ _ hj => by omega) e
  have : q ∈ ns'.map (·.1) := by
    induction h with
    | nil =>
      obtain ⟨w, hw, ew⟩ := List.mem_map.mp (hS p hp)
      exact List.mem_map.mpr ⟨w, g1 w hw, ew⟩
    | snoc _ k ih => exact ((g2 _ ih).2 _ k).2
  exact ⟨(g2 q this).1, fun z hz => ((g2 q this).2 z hz).1⟩
end

/-! ### closures -/
section
def clo (nx : Nat → List Nat) : Nat → List Nat → Nat → List Nat
  | 0, fs, _ => fs
  | fuel + 1, fs, at' => match fs[at']? with
    | none => fs
    | some p => clo nx fuel (fs ++ (nx p).filter fun q => !decide (q ∈ fs)) (at' + 1)
inductive Clo (nx : Nat → List Nat) (p : Nat) : Nat → Prop
  | refl : Clo nx p p
  | step {q r : Nat} (h : Clo nx p q) (k : r ∈ nx q) : Clo nx p r
variable {nx : Nat → List Nat}
theorem clo_nd (hn : ∀ p, (nx p).Nodup) : ∀ (fuel : Nat) (fs : List Nat) (at' : Nat), fs.Nodup → (clo nx fuel fs at').Nodup
  | 0, fs, _, h => h
  | fuel + 1, fs, at', h => by
    unfold clo
    split
    · exact h
    · refine clo_nd hn fuel _ _ ?_
      rw [List.nodup_append]
      refine ⟨h, (hn _).filter _, fun a ha b hb z => ?_⟩
      subst z
      have := (List.mem_filter.mp hb).2
      simp [ha] at this
theorem clo_lt {n : Nat} (hl : ∀ p, ∀ q ∈ nx p, q < n) : ∀ (fuel : Nat) (fs : List Nat) (at' : Nat), (∀ q ∈ fs, q < n) → ∀ q ∈ clo nx fuel fs at', q < n
  | 0, fs, _, h => h
  | fuel + 1, fs, at', h => by
    unfold clo
    split
    · exact h
    · refine clo_lt hl fuel _ _ fun q hq => ?_
      rcases List.mem_append.mp hq with z | z
      · exact h q z
      · exact hl _ q (List.mem_filter.mp z).1
theorem clo_sound {S : List Nat} : ∀ (fuel : Nat) (fs : List Nat) (at' : Nat), (∀ q ∈ fs, ∃ p ∈ S, Clo nx p q) → ∀ q ∈ clo nx fuel fs at', ∃ p ∈ S, Clo nx p q
  | 0, fs, _, h => h
  | fuel + 1, fs, at', h => by
    unfold clo
    split
    · exact h
    · rename_i p0 hp0
      refine clo_sound fuel _ _ fun q hq => ?_
      rcases List.mem_append.mp hq with z | z
      · exact h q z
      · obtain ⟨p, hp, c⟩ := h p0 (List.mem_of_getElem? hp0)
        exact ⟨p, hp, c.step (List.mem_filter.mp z).1⟩
theorem clo_closed {n : Nat} (hn : ∀ p, (nx p).Nodup) (hl : ∀ p, ∀ q ∈ nx p, q < n) : ∀ (fuel : Nat) (fs : List Nat) (at' : Nat), fs.Nodup → (∀ q ∈ fs, q < n) → at' ≤ fs.length → fuel + at' = n + 1 → (∀ (j p : Nat), j < at' → fs[j]? = some p → ∀ q ∈ nx p, q ∈ fs) →
    (∀ q ∈ fs, q ∈ clo nx fuel fs at') ∧ ∀ p ∈ clo nx fuel fs at', ∀ q ∈ nx p, q ∈ clo nx fuel fs at'
  | 0, fs, at', nd, lt, hat, hf, _ => by
    have : fs.length ≤ (List.range n).length := len_le_of_sub nd fun x hx => List.mem_range.mpr (lt x hx)
    rw [List.length_range] at this
    omega
  | fuel + 1, fs, at', nd, lt, hat, hf, hI => by
    unfold clo
    split
    · rename_i hnn
      have hle : fs.length ≤ at' := by
        rcases Nat.lt_or_ge at' fs.length with z | z
        · rw [List.getElem?_eq_getElem z] at hnn; cases hnn
        · exact z
      refine ⟨fun q h => h, fun p hp q hq => ?_⟩
      obtain ⟨j, hj⟩ := List.mem_iff_getElem?.mp hp
      have := (List.getElem?_eq_some_iff.mp hj).1
      exact hI j p (by omega) hj q hq
    · rename_i p0 hp0
      have hlt := (List.getElem?_eq_some_iff.mp hp0).1
      obtain ⟨a, b⟩ := clo_closed hn hl fuel (fs ++ (nx p0).filter fun q => !decide (q ∈ fs)) (at' + 1) (by
          rw [List.nodup_append]
          refine ⟨nd, (hn _).filter _, fun a ha b hb z => ?_⟩
          subst z
          have := (List.mem_filter.mp hb).2
          simp [ha] at this) (fun q hq => by
          rcases List.mem_append.mp hq with z | z
          · exact lt q z
          · exact hl _ q (List.mem_filter.mp z).1) (by rw [List.length_append]; omega) (by omega) (fun j p hj hp q hq => by
          rcases Nat.lt_or_ge j at' with z | z
          · rw [List.getElem?_append_left (by omega)] at hp
            exact List.mem_append_left _ (hI j p z hp q hq)
          · have : j = at' := by omega
            subst this
            rw [List.getElem?_append_left hlt, hp0] at hp
            cases hp
            by_cases m : q ∈ fs
            · exact List.mem_append_left _ m
            · exact List.mem_append_right _ (List.mem_filter.mpr ⟨hq, by simp [m]⟩))
      exact ⟨fun q h => a q (List.mem_append_left _ h), b⟩
theorem mem_clo {n : Nat} (hn : ∀ p, (nx p).Nodup) (hl : ∀ p, ∀ q ∈ nx p, q < n) {fs : List Nat} (nd : fs.Nodup) (lt : ∀ q ∈ fs, q < n) {q : Nat} : q ∈ clo nx (n + 1) fs 0 ↔ ∃ p ∈ fs, Clo nx p q := by
  constructor
  · exact clo_sound (S := fs) _ _ _ (fun q h => ⟨q, h, .refl⟩) q
  · rintro ⟨p, hp, c⟩
    obtain ⟨a, b⟩ := clo_closed hn hl (n + 1) fs 0 nd lt (Nat.zero_le _) rfl (fun j p hj => by omega)
    induction c with
    | refl => exact a _ hp
    | step _ k ih => exact b _ ih _ k
end
end Gm
end
section
set_option linter.all false
set_option maxRecDepth 10000
/-! Tallies as plain data, and their graphs. -/
namespace Tly
open Gm
abbrev Row := List Int
abbrev Tab := List Row
structure Tal where
  dg : List Nat
  start : Row
  tables : List Tab
  ends : Row
def Tal.n (t : Tal) : Nat := t.start.length
/-- a square table -/
def SqT' (n : Nat) (m : Tab) : Prop := m.length = n ∧ ∀ r ∈ m, r.length = n
structure Tal.Ok (t : Tal) : Prop where
  pos : 1 ≤ t.n
  sml : t.n ≤ 9
  ends : t.ends.length = t.n
  tabs : ∀ m ∈ t.tables, SqT' t.n m
  len : t.tables.length = t.dg.length
  dgs : t.dg ∈ [[48, 49], [48], [55], [48, 49, 50]]
  nn : ∀ m ∈ t.tables, ∀ r ∈ m, ∀ x ∈ r, 0 ≤ x
  nnS : ∀ x ∈ t.start, 0 ≤ x
  nnE : ∀ x ∈ t.ends, 0 ≤ x
  bd : ∀ m ∈ t.tables, ∀ r ∈ m, ∀ x ∈ r, x ≤ 1000
/-- small numbers only -/
structure Tal.Base (t : Tal) : Prop where
  n : t.n ≤ 3
  s : ∀ x ∈ t.start, x ≤ 2
  e : ∀ x ∈ t.ends, x ≤ 3
  t : ∀ m ∈ t.tables, ∀ r ∈ m, ∀ x ∈ r, x ≤ 2
/-- an entry of a table -/
def ent (m : Tab) (i j : Nat) : Int := (m.getD i []).getD j 0
theorem ent_row {n : Nat} {m : Tab} (h : SqT' n m) {i : Nat} (hi : i < n) : ∃ r, m[i]? = some r ∧ m.getD i [] = r ∧ r.length = n := by
  have hl : i < m.length := by rw [h.1]; exact hi
  have e : m[i]? = some m[i] := List.getElem?_eq_getElem hl
  exact ⟨m[i], e, by rw [List.getD_eq_getElem?_getD, e]; rfl, h.2 _ (List.getElem_mem hl)⟩
theorem ent_at {n : Nat} {m : Tab} (h : SqT' n m) {i j : Nat} (hi : i < n) (hj : j < n) : ∃ r, m[i]? = some r ∧ r[j]? = some (ent m i j) := by
  obtain ⟨r, e, e2, e3⟩ := ent_row h hi
  refine ⟨r, e, ?_⟩
  unfold ent
  rw [e2, List.getD_eq_getElem?_getD, List.getElem?_eq_getElem (by rw [e3]; exact hj)]
  rfl
/-- the table of a digit -/
def tab (t : Tal) (c : Nat) : Tab := ((t.dg.zip t.tables).lookup c).getD []
def gph (t : Tal) : Gph where
  L := t.dg
  n := t.n
  e := fun c p q => (ent (tab t c) p q).toNat
  s := fun p => decide (0 < t.start.getD p 0)
  f := fun p => decide (0 < t.ends.getD p 0)
theorem Tal.Ok.dnd {t : Tal} (h : t.Ok) : t.dg.Nodup := by
  have := h.dgs
  simp at this
  rcases this with e | e | e | e <;> rw [e] <;> decide
theorem Tal.Ok.dlen {t : Tal} (h : t.Ok) : 1 ≤ t.dg.length ∧ t.dg.length ≤ 3 := by
  have := h.dgs
  simp at this
  rcases this with e | e | e | e <;> rw [e] <;> decide
theorem lookup_zipN {β : Type} : ∀ {as : List Nat} {bs : List β} {j : Nat} {a : Nat} {b : β}, as.Nodup → as[j]? = some a → bs[j]? = some b → (as.zip bs).lookup a = some b
  | [], _, _, _, _, _, h, _ => by simp at h
  | _ :: _, [], _, _, _, _, _, h => by simp at h
  | x :: as, y :: bs, 0, a, b, _, h1, h2 => by
    simp at h1 h2
    subst h1 h2
    simp
  | x :: as, y :: bs, j + 1, a, b, nd, h1, h2 => by
    obtain ⟨n1, n2⟩ := List.nodup_cons.mp nd
    have hm : a ∈ as := List.mem_of_getElem? (show as[j]? = some a by simpa using h1)
    have ne : (a == x) = false := by
      have : a ≠ x := fun z => n1 (z ▸ hm)
      simpa using this
    rw [List.zip_cons_cons, List.lookup_cons, ne]
    exact lookup_zipN n2 (by simpa using h1) (by simpa using h2)
theorem mem_zip {t : Tal} (h : t.Ok) {c : Nat} {m : Tab} : (c, m) ∈ t.dg.zip t.tables ↔ c ∈ t.dg ∧ m = tab t c := by
  constructor
  · intro hm
    obtain ⟨j, hj⟩ := List.mem_iff_getElem?.mp hm
    obtain ⟨h1, h2⟩ := List.getElem?_zip_eq_some.mp hj
    refine ⟨List.mem_of_getElem? h1, ?_⟩
    unfold tab
    rw [lookup_zipN h.dnd h1 h2]; rfl
  · rintro ⟨hc, rfl⟩
    obtain ⟨j, hj⟩ := List.mem_iff_getElem?.mp hc
    have hl := (List.getElem?_eq_some_iff.mp hj).1
    have h2 : t.tables[j]? = some (t.tables[j]'(by rw [h.len]; exact hl)) := List.getElem?_eq_getElem _
    have e : tab t c = t.tables[j]'(by rw [h.len]; exact hl) := by
      unfold tab
      rw [lookup_zipN h.dnd hj h2]; rfl
    rw [e]
    exact List.mem_of_getElem? (List.getElem?_zip_eq_some.mpr ⟨hj, h2⟩)
theorem tab_mem {t : Tal} (h : t.Ok) {c : Nat} (hc : c ∈ t.dg) : tab t c ∈ t.tables := (List.of_mem_zip ((mem_zip h).mpr ⟨hc, rfl⟩)).2
theorem mem_tab {t : Tal} (h : t.Ok) {m : Tab} (hm : m ∈ t.tables) : ∃ c ∈ t.dg, m = tab t c := by
  obtain ⟨j, hj⟩ := List.mem_iff_getElem?.mp hm
  have hl := (List.getElem?_eq_some_iff.mp hj).1
  have h2 : t.dg[j]? = some (t.dg[j]'(by rw [← h.len]; exact hl)) := List.getElem?_eq_getElem _
  have := (mem_zip h).mp (List.mem_of_getElem? (List.getElem?_zip_eq_some.mpr ⟨h2, hj⟩))
  exact ⟨_, this.1, this.2⟩
theorem tab_sq {t : Tal} (h : t.Ok) {c : Nat} (hc : c ∈ t.dg) : SqT' t.n (tab t c) := h.tabs _ (tab_mem h hc)
theorem ent_nn {t : Tal} (h : t.Ok) {c p q : Nat} (hc : c ∈ t.dg) (hp : p < t.n) (hq : q < t.n) : 0 ≤ ent (tab t c) p q := by
  obtain ⟨r, e1, e2⟩ := ent_at (tab_sq h hc) hp hq
  exact h.nn _ (tab_mem h hc) r (List.mem_of_getElem? e1) _ (List.mem_of_getElem? e2)
theorem ent_bd {t : Tal} (h : t.Ok) {c p q : Nat} (hc : c ∈ t.dg) (hp : p < t.n) (hq : q < t.n) : ent (tab t c) p q ≤ 1000 := by
  obtain ⟨r, e1, e2⟩ := ent_at (tab_sq h hc) hp hq
  exact h.bd _ (tab_mem h hc) r (List.mem_of_getElem? e1) _ (List.mem_of_getElem? e2)
theorem gph_pos {t : Tal} {c p q : Nat} : 0 < (gph t).e c p q ↔ 0 < ent (tab t c) p q := by
  show 0 < (ent (tab t c) p q).toNat ↔ _
  omega
def nexts (t : Tal) (s : Nat) : List Nat := (List.range t.n).filter fun q => t.tables.any fun m => decide (0 < ent m s q)
theorem mem_nexts {t : Tal} (h : t.Ok) {s q : Nat} : q ∈ nexts t s ↔ q < t.n ∧ ∃ c ∈ t.dg, 0 < (gph t).e c s q := by
  unfold nexts
  rw [List.mem_filter, List.mem_range, List.any_eq_true]
  constructor
  · rintro ⟨h1, m, hm, e⟩
    obtain ⟨c, hc, rfl⟩ := mem_tab h hm
    exact ⟨h1, c, hc, gph_pos.mpr (by simpa using e)⟩
  · rintro ⟨h1, c, hc, e⟩
    exact ⟨h1, _, tab_mem h hc, by simpa using gph_pos.mp e⟩
def stepsOf (t : Tal) (s : Nat) : List (Nat × Nat × Int) := (t.dg.zip t.tables).flatMap fun z => (((z.2.getD s []).zipIdx).filter fun y => decide (0 < y.1)).map fun y => (z.1, y.2, y.1)
theorem mem_steps {t : Tal} (h : t.Ok) {s : Nat} (hs : s < t.n) {c q : Nat} {x : Int} : (c, q, x) ∈ stepsOf t s ↔ c ∈ t.dg ∧ q < t.n ∧ x = ent (tab t c) s q ∧ 0 < x := by
  unfold stepsOf
  rw [List.mem_flatMap]
  constructor
  · rintro ⟨⟨c', m⟩, hz, hm⟩
    obtain ⟨hc, rfl⟩ := (mem_zip h).mp hz
    obtain ⟨⟨y, j⟩, hy, e⟩ := List.mem_map.mp hm
    obtain ⟨h1, h2⟩ := List.mem_filter.mp hy
    obtain ⟨rfl, e'⟩ := Prod.mk.inj e
    obtain ⟨rfl, rfl⟩ := Prod.mk.inj e'
    obtain ⟨r, e1, e2, e3⟩ := ent_row (tab_sq h hc) hs
    have h1 : (y, j) ∈ ((tab t c').getD s []).zipIdx := h1
    rw [e2] at h1
    have h1 := List.mem_zipIdx_iff_getElem?.mp h1
    have hq : j < r.length := (List.getElem?_eq_some_iff.mp h1).1
    refine ⟨hc, by omega, ?_, by simpa using h2⟩
    unfold ent
    rw [e2, List.getD_eq_getElem?_getD, h1]; rfl
  · rintro ⟨hc, hq, rfl, hp⟩
    refine ⟨(c, tab t c), (mem_zip h).mpr ⟨hc, rfl⟩, List.mem_map.mpr ⟨(ent (tab t c) s q, q), List.mem_filter.mpr ⟨?_, by simpa using hp⟩, rfl⟩⟩
    obtain ⟨r, e1, e2, e3⟩ := ent_row (tab_sq h hc) hs
    show _ ∈ ((tab t c).getD s []).zipIdx
    rw [e2]
    refine List.mem_zipIdx_iff_getElem?.mpr ?_
    show r[q]? = some _
    unfold ent
    rw [e2, List.getD_eq_getElem?_getD, List.getElem?_eq_getElem (by omega)]; rfl
/-- states reached -/
def reached (t : Tal) (S : List Nat) : List Nat := (List.range t.n).filter fun q => decide (q ∈ clo (nexts t) (t.n + 1) ((List.range t.n).filter fun p => decide (p ∈ S)) 0)
theorem clo_reach {t : Tal} (h : t.Ok) {p q : Nat} (hp : p < t.n) : Clo (nexts t) p q ↔ Reach (gph t) p q := by
  constructor
  · intro c
    induction c with
    | refl => exact .refl hp
    | step _ k ih =>
      obtain ⟨h1, c, hc, e⟩ := (mem_nexts h).mp k
      obtain ⟨w, a⟩ := ih
      exact ⟨_, a.snoc hc h1 e⟩
  · rintro ⟨w, a⟩
    induction a with
    | nil _ => exact .refl
    | snoc _ hc hr he ih => exact ih.step ((mem_nexts h).mpr ⟨hr, _, hc, he⟩)
theorem mem_reached {t : Tal} (h : t.Ok) {S : List Nat} {q : Nat} : q ∈ reached t S ↔ ∃ p ∈ S, Reach (gph t) p q := by
  unfold reached
  rw [List.mem_filter, List.mem_range, decide_eq_true_eq, mem_clo (nx := nexts t) (fun p => List.Pairwise.filter _ List.nodup_range) (fun p q hq => ((mem_nexts h).mp hq).1) (List.Pairwise.filter _ List.nodup_range) (fun q hq => List.mem_range.mp (List.mem_filter.mp hq).1)]
  constructor
  · rintro ⟨h1, p, hp, c⟩
    obtain ⟨a, b⟩ := List.mem_filter.mp hp
    exact ⟨p, by simpa using b, (clo_reach h (List.mem_range.mp a)).mp c⟩
  · rintro ⟨p, hp, r⟩
    exact ⟨r.lt, p, List.mem_filter.mpr ⟨List.mem_range.mpr r.lt0, by simpa using hp⟩, (clo_reach h r.lt0).mpr r⟩
def starts (t : Tal) : List Nat := (List.range t.n).filter fun p => decide (0 < t.start.getD p 0)
def goals (t : Tal) : List Nat := (List.range t.n).filter fun p => decide (0 < t.ends.getD p 0)
def useful (t : Tal) : List Nat := (reached t (starts t)).filter fun s => (goals t).any fun g => decide (g ∈ reached t [s])
theorem mem_starts {t : Tal} {p : Nat} : p ∈ starts t ↔ p < t.n ∧ (gph t).s p = true := by
  unfold starts
  rw [List.mem_filter, List.mem_range]; rfl
theorem mem_goals {t : Tal} {p : Nat} : p ∈ goals t ↔ p < t.n ∧ (gph t).f p = true := by
  unfold goals
  rw [List.mem_filter, List.mem_range]; rfl
theorem mem_useful {t : Tal} (h : t.Ok) {p : Nat} : p ∈ useful t ↔ Useful (gph t) p := by
  unfold useful
  rw [List.mem_filter, List.any_eq_true, mem_reached h]
  constructor
  · rintro ⟨⟨a, ha, r⟩, g, hg, e⟩
    have e : g ∈ reached t [p] := by simpa using e
    obtain ⟨p', hp', r2⟩ := (mem_reached h).mp e
    have : p' = p := by simpa using hp'
    subst this
    exact ⟨⟨a, (mem_starts.mp ha).2, r⟩, g, (mem_goals.mp hg).2, r2⟩
  · rintro ⟨⟨a, ha, r⟩, b, hb, r2⟩
    exact ⟨⟨a, mem_starts.mpr ⟨r.lt0, ha⟩, r⟩, b, mem_goals.mpr ⟨r2.lt, hb⟩, by simpa using (mem_reached h).mpr ⟨p, by simp, r2⟩⟩
theorem reached_asc {t : Tal} {S : List Nat} : (reached t S).Pairwise (· < ·) := List.Pairwise.filter _ List.pairwise_lt_range
theorem useful_asc {t : Tal} : (useful t).Pairwise (· < ·) := List.Pairwise.filter _ reached_asc
theorem reached_lt {t : Tal} {S : List Nat} {q : Nat} (h : q ∈ reached t S) : q < t.n := List.mem_range.mp (List.mem_filter.mp h).1
theorem useful_lt {t : Tal} {q : Nat} (h : q ∈ useful t) : q < t.n := reached_lt (List.mem_filter.mp h).1
def comesBack (t : Tal) (s : Nat) : Bool := decide (s ∈ reached t (nexts t s))
theorem comes_of {t : Tal} (h : t.Ok) {s : Nat} {w : List Nat} (hw : w ≠ []) (a : Path (gph t) s w s) : comesBack t s = true := by
  unfold comesBack
  rw [decide_eq_true_eq, mem_reached h]
  have e : w = [w.head hw] ++ w.tail := by simp
  rw [e] at a
  obtain ⟨q, h1, h2⟩ := a.split
  obtain ⟨q', h3, hc, hr, he⟩ := (show Path (gph t) s ([] ++ [w.head hw]) q from h1).snoc_inv
  have := h3.nil_eq
  subst this
  exact ⟨q, (mem_nexts h).mpr ⟨hr, _, hc, he⟩, _, h2⟩
end Tly
end
section
set_option linter.all false
set_option maxRecDepth 10000
/-! The searches of the text: doubling loops, texts between states, loops of rises. -/
namespace Tly
open Gm
/-- pairs of steps -/
def pairSteps (t : Tal) (a b : Nat) : List (Nat × Nat × Nat × Int) := (stepsOf t a).flatMap fun z => ((stepsOf t b).filter fun y => decide (y.1 = z.1)).map fun y => (z.1, z.2.1, y.2.1, z.2.2 * y.2.2)
theorem mem_pair {t : Tal} (h : t.Ok) {a b : Nat} (ha : a < t.n) (hb : b < t.n) {c q r : Nat} {x : Int} : (c, q, r, x) ∈ pairSteps t a b ↔ c ∈ t.dg ∧ q < t.n ∧ r < t.n ∧ x = ent (tab t c) a q * ent (tab t c) b r ∧ 0 < ent (tab t c) a q ∧ 0 < ent (tab t c) b r := by
  unfold pairSteps
  rw [List.mem_flatMap]
  constructor
  · rintro ⟨⟨c1, q1, x1⟩, h1, h2⟩
    obtain ⟨⟨c2, q2, x2⟩, h3, e⟩ := List.mem_map.mp h2
    obtain ⟨h4, h5⟩ := List.mem_filter.mp h3
    obtain ⟨a1, a2, a3, a4⟩ := (mem_steps h ha).mp h1
    obtain ⟨b1, b2, b3, b4⟩ := (mem_steps h hb).mp h4
    have h5 : c2 = c1 := by simpa using h5
    subst h5
    simp only [Prod.mk.injEq] at e
    obtain ⟨rfl, rfl, rfl, rfl⟩ := e
    subst a3 b3
    exact ⟨a1, a2, b2, rfl, a4, b4⟩
  · rintro ⟨hc, hq, hr, rfl, h1, h2⟩
    exact ⟨(c, q, _), (mem_steps h ha).mpr ⟨hc, hq, rfl, h1⟩, List.mem_map.mpr ⟨(c, r, _), List.mem_filter.mpr ⟨(mem_steps h hb).mpr ⟨hc, hr, rfl, h2⟩, by simp⟩, rfl⟩⟩
abbrev Nd := Nat × Nat × Bool
def dSucc (t : Tal) (z : Nd) : List (Nat × Nd) := (pairSteps t z.1 z.2.1).map fun y => (y.1, (y.2.1, y.2.2.1, z.2.2 || decide (y.2.1 ≠ y.2.2.1) || decide (1 < y.2.2.2)))
def dAll (t : Tal) : List Nd := (List.range t.n).flatMap fun p => (List.range t.n).flatMap fun q => [(p, q, false), (p, q, true)]
theorem mem_dAll {t : Tal} {z : Nd} : z ∈ dAll t ↔ z.1 < t.n ∧ z.2.1 < t.n := by
  obtain ⟨p, q, b⟩ := z
  unfold dAll
  simp only [List.mem_flatMap, List.mem_range, List.mem_cons, List.not_mem_nil, or_false, Prod.mk.injEq]
  constructor
  · rintro ⟨p', hp, q', hq, ⟨rfl, rfl, _⟩ | ⟨rfl, rfl, _⟩⟩ <;> exact ⟨hp, hq⟩
  · rintro ⟨hp, hq⟩
    exact ⟨p, hp, q, hq, by cases b <;> simp⟩
def dLoop (t : Tal) (s : Nat) : Option (List Nat) := bfs (fun _ => false) (fun z => decide (z = (s, s, true))) (dSucc t) ((dAll t).length + 1) [((s, s, false), [])] 0
theorem nat_mul_toNat {a b : Int} (ha : 0 < a) (hb : 0 < b) : (1 < a * b) ↔ 1 < a.toNat * b.toNat := by
  obtain ⟨m, rfl⟩ := Int.eq_ofNat_of_zero_le (Int.le_of_lt ha)
  obtain ⟨k, rfl⟩ := Int.eq_ofNat_of_zero_le (Int.le_of_lt hb)
  simp only [Int.toNat_natCast]
  omega
theorem d_sub {t : Tal} (h : t.Ok) : ∀ q ∈ dAll t, ∀ z ∈ dSucc t q, z.2 ∈ dAll t := by
  rintro ⟨p, q, b⟩ hq z hz
  obtain ⟨h1, h2⟩ := mem_dAll.mp hq
  obtain ⟨⟨c, a1, a2, m⟩, hy, rfl⟩ := List.mem_map.mp hz
  obtain ⟨_, l1, l2, _⟩ := (mem_pair h h1 h2).mp hy
  exact mem_dAll.mpr ⟨l1, l2⟩
theorem d_wk {t : Tal} (h : t.Ok) {s : Nat} (hs : s < t.n) {w : List Nat} {z : Nd} : Wk (dSucc t) (s, s, false) w z ↔ PW (gph t) s s w z.1 z.2.1 z.2.2 := by
  constructor
  · intro k
    induction k with
    | nil => exact .nil hs hs
    | @snoc w q r c _ k ih =>
      have l1 := ih.left.lt
      have l2 := ih.right.lt
      obtain ⟨⟨c', a1, a2, m⟩, hy, e⟩ := List.mem_map.mp k
      obtain ⟨hc, m1, m2, e2, p1, p2⟩ := (mem_pair h l1 l2).mp hy
      cases e
      have := ih.snoc hc m1 m2 (gph_pos.mpr p1) (gph_pos.mpr p2)
      have eq : decide (1 < m) = decide (1 < (gph t).e c' q.1 a1 * (gph t).e c' q.2.1 a2) := by
        rw [e2]
        exact decide_eq_decide.mpr (nat_mul_toNat p1 p2)
      show PW (gph t) s s (w ++ [c']) a1 a2 (q.2.2 || decide (a1 ≠ a2) || decide (1 < m))
      rw [eq]
      exact this
  · obtain ⟨x, y, b⟩ := z
    intro k
    replace k : PW (gph t) s s w x y b := k
    induction k with
    | nil _ _ => exact .nil
    | @snoc w x1 y1 x2 y2 c b h1 hc m1 m2 p1 p2 ih =>
      refine ih.snoc (q := (x1, y1, b)) (List.mem_map.mpr ⟨(c, x2, y2, _), (mem_pair h h1.left.lt h1.right.lt).mpr ⟨hc, m1, m2, rfl, gph_pos.mp p1, gph_pos.mp p2⟩, ?_⟩)
      have eq : decide (1 < ent (tab t c) x1 x2 * ent (tab t c) y1 y2) = decide (1 < (gph t).e c x1 x2 * (gph t).e c y1 y2) := decide_eq_decide.mpr (nat_mul_toNat (gph_pos.mp p1) (gph_pos.mp p2))
      simp only [eq]
theorem d_kp {t : Tal} {s : Nat} (hs : s < t.n) : Kp (dAll t) [((s, s, false), ([] : List Nat))] where
  nd := by simp
  sub := fun q hq => by
    have : q = (s, s, false) := by simpa using hq
    rw [this]; exact mem_dAll.mpr ⟨hs, hs⟩
  txt := fun j q t e => by
    cases j with
    | zero => simp at e; rw [e.2]; exact Nat.le_refl _
    | succ j => simp at e
theorem d_some {t : Tal} (h : t.Ok) {s : Nat} (hs : s < t.n) {w : List Nat} (e : dLoop t s = some w) : PW (gph t) s s w s s true := by
  rcases bfs_sound (S := [(s, s, false)]) _ _ _ w (fun q u hm => by
    have : q = (s, s, false) ∧ u = [] := by simpa using hm
    rw [this.1, this.2]
    exact ⟨_, List.mem_cons_self, .nil⟩) e with ⟨p, _, q, hq, _⟩ | ⟨p, hp, q, c, r, w', e1, k, hm, hr⟩
  · cases hq
  · have : p = (s, s, false) := by simpa using hp
    subst this
    have hr : r = (s, s, true) := by simpa using hr
    subst hr
    subst e1
    exact (d_wk h hs).mp (k.snoc hm)
theorem d_none {t : Tal} (h : t.Ok) {s : Nat} (hs : s < t.n) (e : dLoop t s = none) {w : List Nat} : ¬ PW (gph t) s s w s s true := by
  intro k
  have hw := k.nonempty
  have k2 := (d_wk (z := (s, s, true)) h hs).mpr k
  generalize hz : (s, s, true) = z at k2
  generalize hs' : w = w' at k2
  cases k2 with
  | nil => cases hz
  | @snoc w0 q r c k3 hm =>
    have := (bfs_none (S := [(s, s, false)]) (d_sub h) (d_kp hs) (fun p hp => by simpa using hp) e List.mem_cons_self k3).2 _ hm
    rw [← hz] at this
    simp at this
def doubling (t : Tal) : List Nat := ((useful t).filter (comesBack t)).filter fun s => (dLoop t s).isSome
theorem mem_doubling {t : Tal} (h : t.Ok) {s : Nat} : s ∈ doubling t ↔ Dbl (gph t) s := by
  unfold doubling
  rw [List.mem_filter, List.mem_filter, mem_useful h]
  constructor
  · rintro ⟨⟨u, _⟩, e⟩
    obtain ⟨w, hw⟩ := Option.isSome_iff_exists.mp e
    exact ⟨u, w, d_some h u.lt hw⟩
  · rintro ⟨u, w, k⟩
    refine ⟨⟨u, comes_of h k.nonempty k.left⟩, ?_⟩
    cases q : dLoop t s with
    | some _ => rfl
    | none => exact absurd k (d_none h u.lt q)
theorem dbl_nil {t : Tal} (h : t.Ok) : doubling t = [] ↔ NoDbl (gph t) := by
  constructor
  · intro e p d
    have := (mem_doubling h).mpr d
    rw [e] at this
    simp at this
  · intro nd
    cases q : doubling t with
    | nil => rfl
    | cons p r => exact absurd ((mem_doubling h).mp (q ▸ List.mem_cons_self)) (nd p)

/-! ### texts between states -/
def bSucc (t : Tal) (s : Nat) : List (Nat × Nat) := (stepsOf t s).map fun z => (z.1, z.2.1)
def firsts (t : Tal) (S : List Nat) : List Nat := (List.range t.n).filter fun p => decide (p ∈ S)
def between (t : Tal) (S T : List Nat) : Option (List Nat) := bfs (fun p => decide (p ∈ T)) (fun _ => false) (bSucc t) (t.n + 1) ((firsts t S).map fun p => (p, [])) 0
theorem b_wk {t : Tal} (h : t.Ok) {p : Nat} (hp : p < t.n) {w : List Nat} {q : Nat} : Wk (bSucc t) p w q ↔ Path (gph t) p w q := by
  constructor
  · intro k
    induction k with
    | nil => exact .nil hp
    | snoc _ k ih =>
      obtain ⟨⟨c, q, x⟩, hy, e⟩ := List.mem_map.mp k
      obtain ⟨hc, m1, m2, m3⟩ := (mem_steps h ih.lt).mp hy
      cases e
      exact ih.snoc hc m1 (gph_pos.mpr (m2 ▸ m3))
  · intro k
    induction k with
    | nil _ => exact .nil
    | snoc k hc hr he ih => exact ih.snoc (List.mem_map.mpr ⟨(_, _, _), (mem_steps h k.lt).mpr ⟨hc, hr, rfl, gph_pos.mp he⟩, rfl⟩)
theorem b_sub {t : Tal} (h : t.Ok) : ∀ q ∈ List.range t.n, ∀ z ∈ bSucc t q, z.2 ∈ List.range t.n := by
  intro q hq z hz
  obtain ⟨⟨c, r, x⟩, hy, rfl⟩ := List.mem_map.mp hz
  exact List.mem_range.mpr ((mem_steps h (List.mem_range.mp hq)).mp hy).2.1
theorem firsts_fst (l : List Nat) : (l.map fun p => (p, ([] : List Nat))).map (·.1) = l := by
  rw [List.map_map]
  exact List.map_id _
theorem b_kp {t : Tal} {S : List Nat} : Kp (List.range t.n) ((firsts t S).map fun p => (p, ([] : List Nat))) where
  nd := by rw [firsts_fst]; exact List.Pairwise.filter _ List.nodup_range
  sub := fun q hq => by
    rw [firsts_fst] at hq
    exact (List.mem_filter.mp hq).1
  txt := fun j q u e => by
    obtain ⟨p, _, e⟩ := List.mem_map.mp (List.mem_of_getElem? e)
    cases e
    exact Nat.zero_le _
theorem b_some {t : Tal} (h : t.Ok) {S T w : List Nat} (e : between t S T = some w) : ∃ p ∈ S, ∃ q ∈ T, Path (gph t) p w q := by
  rcases bfs_sound (S := firsts t S) _ _ _ w (fun q u hm => by
    obtain ⟨p, hp, e⟩ := List.mem_map.mp hm
    cases e
    exact ⟨_, hp, .nil⟩) e with ⟨p, hp, q, hq, k⟩ | ⟨p, hp, q, c, r, w', e1, k, hm, hr⟩
  · obtain ⟨h1, h2⟩ := List.mem_filter.mp hp
    exact ⟨p, by simpa using h2, q, by simpa using hq, (b_wk h (List.mem_range.mp h1)).mp k⟩
  · cases hr
theorem b_none {t : Tal} (h : t.Ok) {S T : List Nat} (e : between t S T = none) {p q : Nat} (hp : p ∈ S) (hq : q ∈ T) : ¬ Reach (gph t) p q := by
  rintro ⟨w, k⟩
  have hp' : p ∈ firsts t S := List.mem_filter.mpr ⟨List.mem_range.mpr k.lt0, by simpa using hp⟩
  unfold between at e
  have := (bfs_none (U := List.range t.n) (S := firsts t S) (b_sub h) (b_kp) (fun p hp => by rw [firsts_fst]; exact hp) (by rw [List.length_range]; exact e) hp' ((b_wk h k.lt0).mpr k)).1
  simp at this
  exact this hq
theorem b_isSome {t : Tal} (h : t.Ok) {S T : List Nat} {p q : Nat} (hp : p ∈ S) (hq : q ∈ T) (r : Reach (gph t) p q) : ∃ w, between t S T = some w := by
  cases e : between t S T with
  | some w => exact ⟨w, rfl⟩
  | none => exact absurd r (b_none h e hp hq)

/-! ### loops of rises -/
def turn (t : Tal) (s : Nat) : List Nat := (reached t [s]).filter fun q => decide (s ∈ reached t [q])
def midst (t : Tal) (a b : Nat) : List Nat := (reached t [a]).filter fun q => decide (b ∈ reached t [q])
def within (t : Tal) (s : Nat) (lot : List Nat) (c : Nat) : List Nat := ((stepsOf t s).filter fun z => decide (z.1 = c) && decide (z.2.1 ∈ lot)).map fun z => z.2.1
def triples (xs ys zs : List Nat) : List (Nat × Nat × Nat) := xs.flatMap fun a => ys.flatMap fun b => zs.map fun c => (a, b, c)
theorem reach1 {t : Tal} (h : t.Ok) {a b : Nat} : b ∈ reached t [a] ↔ Reach (gph t) a b := by
  rw [mem_reached h]
  exact ⟨fun ⟨p, hp, r⟩ => by
    have : p = a := by simpa using hp
    rw [← this]; exact r, fun r => ⟨a, by simp, r⟩⟩
theorem mem_midst {t : Tal} (h : t.Ok) {a b q : Nat} : q ∈ midst t a b ↔ Reach (gph t) a q ∧ Reach (gph t) q b := by
  unfold midst
  rw [List.mem_filter, reach1 h, decide_eq_true_eq, reach1 h]
theorem turn_midst (t : Tal) (s : Nat) : turn t s = midst t s s := rfl
theorem mem_within {t : Tal} (h : t.Ok) {s c q : Nat} {lot : List Nat} (hs : s < t.n) : q ∈ within t s lot c ↔ c ∈ t.dg ∧ q < t.n ∧ 0 < (gph t).e c s q ∧ q ∈ lot := by
  unfold within
  rw [List.mem_map]
  constructor
  · rintro ⟨⟨c', q', x⟩, hm, e⟩
    obtain ⟨h1, h2⟩ := List.mem_filter.mp hm
    obtain ⟨a1, a2, a3, a4⟩ := (mem_steps h hs).mp h1
    rw [Bool.and_eq_true] at h2
    have e1 : c' = c := by simpa using h2.1
    have e2 : q' = q := e
    subst e1 e2
    exact ⟨a1, a2, gph_pos.mpr (a3 ▸ a4), by simpa using h2.2⟩
  · rintro ⟨hc, hq, he, hl⟩
    exact ⟨(c, q, _), List.mem_filter.mpr ⟨(mem_steps h hs).mpr ⟨hc, hq, rfl, gph_pos.mp he⟩, by simp [hl]⟩, rfl⟩
def rSucc (t : Tal) (one other : Nat) (z : Nat × Nat × Nat) : List (Nat × Nat × Nat × Nat) :=
  t.dg.flatMap fun c => (triples (within t z.1 (turn t one) c) (within t z.2.1 (midst t one other) c) (within t z.2.2 (turn t other) c)).map fun y => (c, y)
theorem mem_triples {xs ys zs : List Nat} {a b c : Nat} : (a, b, c) ∈ triples xs ys zs ↔ a ∈ xs ∧ b ∈ ys ∧ c ∈ zs := by
  unfold triples
  simp only [List.mem_flatMap, List.mem_map, Prod.mk.injEq]
  constructor
  · rintro ⟨a', ha, b', hb, c', hc, rfl, rfl, rfl⟩
    exact ⟨ha, hb, hc⟩
  · rintro ⟨ha, hb, hc⟩
    exact ⟨a, ha, b, hb, c, hc, rfl, rfl, rfl⟩
def rAll (t : Tal) : List (Nat × Nat × Nat) := triples (List.range t.n) (List.range t.n) (List.range t.n)
theorem mem_rAll {t : Tal} {z : Nat × Nat × Nat} : z ∈ rAll t ↔ z.1 < t.n ∧ z.2.1 < t.n ∧ z.2.2 < t.n := by
  obtain ⟨a, b, c⟩ := z
  unfold rAll
  rw [mem_triples]
  simp only [List.mem_range]
theorem mem_rSucc {t : Tal} (h : t.Ok) {one other : Nat} {z y : Nat × Nat × Nat} {c : Nat} (hz : z ∈ rAll t) : (c, y) ∈ rSucc t one other z ↔ c ∈ t.dg ∧ (y.1 < t.n ∧ 0 < (gph t).e c z.1 y.1 ∧ y.1 ∈ turn t one) ∧ (y.2.1 < t.n ∧ 0 < (gph t).e c z.2.1 y.2.1 ∧ y.2.1 ∈ midst t one other) ∧ y.2.2 < t.n ∧ 0 < (gph t).e c z.2.2 y.2.2 ∧ y.2.2 ∈ turn t other := by
  obtain ⟨l1, l2, l3⟩ := mem_rAll.mp hz
  obtain ⟨a, b, d⟩ := y
  unfold rSucc
  rw [List.mem_flatMap]
  constructor
  · rintro ⟨c', hc', hm⟩
    obtain ⟨⟨a', b', d'⟩, hy, e⟩ := List.mem_map.mp hm
    cases e
    obtain ⟨m1, m2, m3⟩ := mem_triples.mp hy
    obtain ⟨_, p1, p2, p3⟩ := (mem_within h l1).mp m1
    obtain ⟨_, q1, q2, q3⟩ := (mem_within h l2).mp m2
    obtain ⟨_, r1, r2, r3⟩ := (mem_within h l3).mp m3
    exact ⟨hc', ⟨p1, p2, p3⟩, ⟨q1, q2, q3⟩, r1, r2, r3⟩
  · rintro ⟨hc, ⟨p1, p2, p3⟩, ⟨q1, q2, q3⟩, r1, r2, r3⟩
    exact ⟨c, hc, List.mem_map.mpr ⟨(a, b, d), mem_triples.mpr ⟨(mem_within h l1).mpr ⟨hc, p1, p2, p3⟩, (mem_within h l2).mpr ⟨hc, q1, q2, q3⟩, (mem_within h l3).mpr ⟨hc, r1, r2, r3⟩⟩, rfl⟩⟩
theorem r_sub {t : Tal} (h : t.Ok) {one other : Nat} : ∀ q ∈ rAll t, ∀ z ∈ rSucc t one other q, z.2 ∈ rAll t := by
  rintro q hq ⟨c, y⟩ hz
  obtain ⟨_, ⟨p1, _⟩, ⟨q1, _⟩, r1, _⟩ := (mem_rSucc h hq).mp hz
  exact mem_rAll.mpr ⟨p1, q1, r1⟩
def rLoop (t : Tal) (one other : Nat) : Option (List Nat) := bfs (fun _ => false) (fun z => decide (z = (one, other, other))) (rSucc t one other) ((rAll t).length + 1) [((one, one, other), [])] 0
theorem r_wk {t : Tal} (h : t.Ok) {p q : Nat} (hp : p < t.n) (hq : q < t.n) {w : List Nat} {z : Nat × Nat × Nat} (k : Wk (rSucc t p q) (p, p, q) w z) : Path (gph t) p w z.1 ∧ Path (gph t) p w z.2.1 ∧ Path (gph t) q w z.2.2 := by
  induction k with
  | nil => exact ⟨.nil hp, .nil hp, .nil hq⟩
  | snoc _ k ih =>
    obtain ⟨a, b, c⟩ := ih
    obtain ⟨hc, ⟨p1, p2, _⟩, ⟨q1, q2, _⟩, r1, r2, _⟩ := (mem_rSucc h (mem_rAll.mpr ⟨a.lt, b.lt, c.lt⟩)).mp k
    exact ⟨a.snoc hc p1 p2, b.snoc hc q1 q2, c.snoc hc r1 r2⟩
theorem r_kw {t : Tal} (h : t.Ok) {p q : Nat} : ∀ {w : List Nat} {a b c : Nat}, Path (gph t) p w a → Path (gph t) p w b → Path (gph t) q w c → Reach (gph t) a p → Reach (gph t) b q → Reach (gph t) c q → Wk (rSucc t p q) (p, p, q) w (a, b, c) := by
  intro w
  induction hl : w.length generalizing w with
  | zero =>
    intro a b c h1 h2 h3 _ _ _
    have : w = [] := List.eq_nil_of_length_eq_zero hl
    subst this
    rw [← h1.nil_eq, ← h2.nil_eq, ← h3.nil_eq]
    exact .nil
  | succ n ih =>
    intro a b c h1 h2 h3 r1 r2 r3
    have hv : w ≠ [] := fun z => by rw [z] at hl; cases hl
    obtain ⟨v, d, rfl⟩ : ∃ v d, w = v ++ [d] := ⟨w.dropLast, w.getLast hv, (List.dropLast_concat_getLast hv).symm⟩
    obtain ⟨a', a1, hc, a2, a3⟩ := h1.snoc_inv
    obtain ⟨b', b1, _, b2, b3⟩ := h2.snoc_inv
    obtain ⟨c', c1, _, c2, c3⟩ := h3.snoc_inv
    have ra : Reach (gph t) a' a := ⟨_, Path.one a1.lt a2 hc a3⟩
    have rb : Reach (gph t) b' b := ⟨_, Path.one b1.lt b2 hc b3⟩
    have rc : Reach (gph t) c' c := ⟨_, Path.one c1.lt c2 hc c3⟩
    have k := ih (w := v) (by simpa using hl) a1 b1 c1 (ra.trans r1) (rb.trans r2) (rc.trans r3)
    exact k.snoc ((mem_rSucc h (mem_rAll.mpr ⟨a1.lt, b1.lt, c1.lt⟩)).mpr ⟨hc, ⟨a2, a3, by rw [turn_midst, mem_midst h]; exact ⟨⟨_, h1⟩, r1⟩⟩, ⟨b2, b3, (mem_midst h).mpr ⟨⟨_, h2⟩, r2⟩⟩, c2, c3, by rw [turn_midst, mem_midst h]; exact ⟨⟨_, h3⟩, r3⟩⟩)
theorem r_kp {t : Tal} {p q : Nat} (hp : p < t.n) (hq : q < t.n) : Kp (rAll t) [((p, p, q), ([] : List Nat))] where
  nd := by simp
  sub := fun z hz => by
    have : z = (p, p, q) := by simpa using hz
    rw [this]; exact mem_rAll.mpr ⟨hp, hp, hq⟩
  txt := fun j q t e => by
    cases j with
    | zero => simp at e; rw [e.2]; exact Nat.le_refl _
    | succ j => simp at e
theorem r_some {t : Tal} (h : t.Ok) {p q : Nat} (hp : p < t.n) (hq : q < t.n) {w : List Nat} (e : rLoop t p q = some w) : Loop3 (gph t) w p q ∧ w ≠ [] := by
  rcases bfs_sound (S := [(p, p, q)]) _ _ _ w (fun z u hm => by
    have : z = (p, p, q) ∧ u = [] := by simpa using hm
    rw [this.1, this.2]
    exact ⟨_, List.mem_cons_self, .nil⟩) e with ⟨_, _, z, hz, _⟩ | ⟨p', hp', z, c, r, w', e1, k, hm, hr⟩
  · cases hz
  · have : p' = (p, p, q) := by simpa using hp'
    subst this
    have hr : r = (p, q, q) := by simpa using hr
    subst hr
    subst e1
    exact ⟨r_wk h hp hq (k.snoc hm), by simp⟩
theorem r_none {t : Tal} (h : t.Ok) {p q : Nat} (hp : p < t.n) (hq : q < t.n) (n : p ≠ q) (e : rLoop t p q = none) {w : List Nat} : ¬ Loop3 (gph t) w p q := by
  rintro l
  have hw := l.ne n
  obtain ⟨a, b, c⟩ := l
  have k := r_kw h a b c (.refl hp) (.refl hq) (.refl hq)
  generalize hz : (p, q, q) = z at k
  generalize hs' : w = w' at k
  cases k with
  | nil => cases hz; exact n rfl
  | @snoc w0 y r c k3 hm =>
    have := (bfs_none (S := [(p, p, q)]) (r_sub h) (r_kp hp hq) (fun p hp => by simpa using hp) e List.mem_cons_self k3).2 _ hm
    rw [← hz] at this
    simp at this
def some' (t : Tal) : List Nat := (useful t).filter (comesBack t)
def rises (t : Tal) : List (Nat × Nat) := (some' t).flatMap fun one => ((some' t).filter fun other => decide (one ≠ other) && decide (other ∈ reached t [one]) && (rLoop t one other).isSome).map fun other => (one, other)
theorem mem_rises {t : Tal} (h : t.Ok) {p q : Nat} : (p, q) ∈ rises t ↔ Rise (gph t) p q := by
  unfold rises some'
  rw [List.mem_flatMap]
  constructor
  · rintro ⟨one, h1, h2⟩
    obtain ⟨other, h3, e⟩ := List.mem_map.mp h2
    cases e
    obtain ⟨h4, h5⟩ := List.mem_filter.mp h3
    rw [Bool.and_eq_true, Bool.and_eq_true] at h5
    have up := (mem_useful h).mp (List.mem_filter.mp h1).1
    have uq := (mem_useful h).mp (List.mem_filter.mp h4).1
    obtain ⟨w, hw⟩ := Option.isSome_iff_exists.mp h5.2
    exact ⟨by simpa using h5.1.1, up, uq, w, (r_some h up.lt uq.lt hw).1⟩
  · rintro ⟨n, up, uq, w, l⟩
    have hw := l.ne n
    refine ⟨p, List.mem_filter.mpr ⟨(mem_useful h).mpr up, comes_of h hw l.1⟩, List.mem_map.mpr ⟨q, List.mem_filter.mpr ⟨List.mem_filter.mpr ⟨(mem_useful h).mpr uq, comes_of h hw l.2.2⟩, ?_⟩, rfl⟩⟩
    rw [Bool.and_eq_true, Bool.and_eq_true]
    refine ⟨⟨by simpa using n, by simpa using (reach1 h).mpr ⟨w, l.2.1⟩⟩, ?_⟩
    cases e : rLoop t p q with
    | some _ => rfl
    | none => exact absurd l (r_none h up.lt uq.lt n e)
end Tly
end
section
set_option linter.all false
set_option maxRecDepth 10000
/-! Levels of the useful states. -/
namespace Gm
variable {G : Gph}
theorem Lev.wit {a m b : Nat} (h : Lev G a m b) (nd : NoDbl G) : ∃ l : List Nat, l.Nodup ∧ l.length = m ∧ ∀ x ∈ l, x < G.n ∧ ∃ y, Rise G x y ∧ Reach G y b := by
  induction h with
  | refl h => exact ⟨[], by simp, rfl, by simp⟩
  | move _ k u ih =>
    obtain ⟨l, h1, h2, h3⟩ := ih
    exact ⟨l, h1, h2, fun x hx => let ⟨a, y, b, c⟩ := h3 x hx; ⟨a, y, b, c.trans k⟩⟩
  | @rise m p q _ k ih =>
    obtain ⟨l, h1, h2, h3⟩ := ih
    refine ⟨p :: l, List.nodup_cons.mpr ⟨fun hp => ?_, h1⟩, by simp [h2], fun x hx => ?_⟩
    · obtain ⟨_, y, r, k⟩ := h3 p hp
      exact nd p (r.back k)
    · rcases List.mem_cons.mp hx with rfl | hx
      · exact ⟨k.2.1.lt, q, k, .refl k.2.2.1.lt⟩
      · obtain ⟨a, y, b, c⟩ := h3 x hx
        exact ⟨a, y, b, c.trans k.reach⟩
theorem Lev.bound {a m b : Nat} (h : Lev G a m b) (nd : NoDbl G) : m ≤ G.n := by
  obtain ⟨l, h1, h2, h3⟩ := h.wit nd
  have := len_le_of_sub (u := List.range G.n) h1 (fun x hx => List.mem_range.mpr (h3 x hx).1)
  rw [List.length_range] at this
  omega
theorem Lev.last {a m b : Nat} (h : Lev G a m b) (hm : 0 < m) : ∃ k p q, m = k + 1 ∧ Lev G a k p ∧ Rise G p q ∧ Reach G q b ∧ Lev G a m q := by
  induction h with
  | refl h => exact absurd hm (by omega)
  | move _ k u ih =>
    obtain ⟨j, p, q, h1, h2, h3, h4, h5⟩ := ih hm
    exact ⟨j, p, q, h1, h2, h3, h4.trans k, h5⟩
  | @rise m p q l k ih => exact ⟨m, p, q, rfl, l, k, .refl k.2.2.1.lt, l.rise k⟩
/-- the level of a state -/
noncomputable def lvl (G : Gph) (p : Nat) : Nat := open Classical in if h : ∃ m, (∃ a, Lev G a m p) ∧ ∀ a m', Lev G a m' p → m' ≤ m then Classical.choose h else 0
theorem lvl_ex {p : Nat} (nd : NoDbl G) (u : Useful G p) : ∃ m, (∃ a, Lev G a m p) ∧ ∀ a m', Lev G a m' p → m' ≤ m := by
  have : ∀ k, k ≤ G.n → (∀ a m', Lev G a m' p → m' ≤ G.n - k) → ∃ m, (∃ a, Lev G a m p) ∧ ∀ a m', Lev G a m' p → m' ≤ m := by
    intro k hk
    induction hj : G.n - k generalizing k with
    | zero =>
      intro h
      exact ⟨0, ⟨p, .refl u⟩, h⟩
    | succ j ih =>
      intro h
      by_cases w : ∃ a, Lev G a (j + 1) p
      · exact ⟨j + 1, w, h⟩
      · refine ih (k + 1) (by omega) (by omega) fun a m' l => ?_
        have := h a m' l
        have : m' ≠ j + 1 := fun e => w ⟨a, e ▸ l⟩
        omega
  exact this 0 (Nat.zero_le _) fun a m' l => l.bound nd
theorem lvl_spec {p : Nat} (nd : NoDbl G) (u : Useful G p) : (∃ a, Lev G a (lvl G p) p) ∧ ∀ a m', Lev G a m' p → m' ≤ lvl G p := by
  have h := lvl_ex nd u
  unfold lvl
  rw [dif_pos h]
  exact Classical.choose_spec h
theorem lvl_eq {p m : Nat} (nd : NoDbl G) (u : Useful G p) (h1 : ∃ a, Lev G a m p) (h2 : ∀ a m', Lev G a m' p → m' ≤ m) : m = lvl G p := by
  obtain ⟨⟨a, h3⟩, h4⟩ := lvl_spec nd u
  obtain ⟨a', h1⟩ := h1
  exact Nat.le_antisymm (h4 _ _ h1) (h2 _ _ h3)
theorem lvl_move {p q : Nat} (nd : NoDbl G) (u : Useful G p) (v : Useful G q) (r : Reach G p q) : lvl G p ≤ lvl G q := by
  obtain ⟨⟨a, h⟩, _⟩ := lvl_spec nd u
  exact (lvl_spec nd v).2 _ _ (h.move r v)
theorem lvl_rise {p q : Nat} (nd : NoDbl G) (r : Rise G p q) : lvl G p + 1 ≤ lvl G q := by
  obtain ⟨⟨a, h⟩, _⟩ := lvl_spec nd r.2.1
  exact (lvl_spec nd r.2.2.1).2 _ _ (h.rise r)
/-- under a level there is a rise -/
theorem lvl_down {p : Nat} (nd : NoDbl G) (u : Useful G p) (h : 0 < lvl G p) : ∃ x y, Rise G x y ∧ lvl G x + 1 = lvl G p ∧ lvl G y = lvl G p ∧ Reach G y p := by
  obtain ⟨⟨a, l⟩, _⟩ := lvl_spec nd u
  obtain ⟨k, x, y, e, h1, h2, h3, h4⟩ := l.last h
  have a1 := (lvl_spec nd h2.2.1).2 _ _ h1
  have a2 := lvl_rise nd h2
  have a3 := lvl_move nd h2.2.2.1 u h3
  exact ⟨x, y, h2, by omega, by omega, h3⟩
end Gm
namespace Tly
open Gm
def upd (f : Nat → Int) (p : Nat) (v : Int) : Nat → Int := fun q => if q = p then v else f q
def moves (t : Tal) : List (Nat × Nat × Int) := ((useful t).flatMap fun s => ((nexts t s).filter fun q => decide (q ∈ useful t)).map fun q => (s, q, 0)) ++ (rises t).map fun z => (z.1, z.2, 1)
theorem mem_moves {t : Tal} (h : t.Ok) {a b : Nat} {r : Int} (hm : (a, b, r) ∈ moves t) : a ∈ useful t ∧ b ∈ useful t ∧ ((r = 0 ∧ Reach (gph t) a b) ∨ (r = 1 ∧ Rise (gph t) a b)) := by
  unfold moves at hm
  rcases List.mem_append.mp hm with hm | hm
  · obtain ⟨s, h1, h2⟩ := List.mem_flatMap.mp hm
    obtain ⟨q, h3, e⟩ := List.mem_map.mp h2
    cases e
    obtain ⟨h4, h5⟩ := List.mem_filter.mp h3
    obtain ⟨h6, c, hc, he⟩ := (mem_nexts h).mp h4
    exact ⟨h1, by simpa using h5, .inl ⟨rfl, [c], Path.one (useful_lt h1) h6 hc he⟩⟩
  · obtain ⟨⟨p, q⟩, h1, e⟩ := List.mem_map.mp hm
    cases e
    have r := (mem_rises h).mp h1
    exact ⟨(mem_useful h).mpr r.2.1, (mem_useful h).mpr r.2.2.1, .inr ⟨rfl, r⟩⟩
theorem moves_step {t : Tal} (h : t.Ok) {a b c : Nat} (ha : a ∈ useful t) (hb : b ∈ useful t) (hc : c ∈ t.dg) (he : 0 < (gph t).e c a b) : (a, b, (0 : Int)) ∈ moves t :=
  List.mem_append.mpr (.inl (List.mem_flatMap.mpr ⟨a, ha, List.mem_map.mpr ⟨b, List.mem_filter.mpr ⟨(mem_nexts h).mpr ⟨useful_lt hb, c, hc, he⟩, by simpa using hb⟩, rfl⟩⟩))
theorem moves_rise {t : Tal} (h : t.Ok) {a b : Nat} (r : Rise (gph t) a b) : (a, b, (1 : Int)) ∈ moves t :=
  List.mem_append.mpr (.inr (List.mem_map.mpr ⟨(a, b), (mem_rises h).mpr r, rfl⟩))
def relax (s : (Nat → Int) × Bool) (z : Nat × Nat × Int) : (Nat → Int) × Bool := if s.1 z.2.1 < s.1 z.1 + z.2.2 then (upd s.1 z.2.1 (s.1 z.1 + z.2.2), true) else s
def Wit (t : Tal) (f : Nat → Int) : Prop := ∀ p ∈ useful t, ∃ m : Nat, f p = m ∧ ∃ a, Lev (gph t) a m p
theorem wit0 {t : Tal} (h : t.Ok) : Wit t fun _ => 0 := fun p hp => ⟨0, rfl, p, .refl ((mem_useful h).mp hp)⟩
theorem relax_wit {t : Tal} (h : t.Ok) {s : (Nat → Int) × Bool} (W : Wit t s.1) {z : Nat × Nat × Int} (hz : z ∈ moves t) : Wit t (relax s z).1 := by
  obtain ⟨a, b, r⟩ := z
  unfold relax
  split
  · obtain ⟨ha, hb, hr⟩ := mem_moves h hz
    intro p hp
    show ∃ m : Nat, upd _ b _ p = m ∧ _
    unfold upd
    by_cases e : p = b
    · rw [if_pos e]
      subst e
      obtain ⟨m, e1, a0, l⟩ := W a ha
      rcases hr with ⟨rfl, k⟩ | ⟨rfl, k⟩
      · exact ⟨m, by show s.1 a + 0 = _; rw [e1]; simp, a0, l.move k ((mem_useful h).mp hb)⟩
      · exact ⟨m + 1, by show s.1 a + 1 = _; rw [e1]; simp, a0, l.rise k⟩
    · rw [if_neg e]
      exact W p hp
  · exact W
theorem sum_upd : ∀ {U : List Nat} {f : Nat → Int} {p : Nat} {v : Int}, f p ≤ v → (U.map f).sum ≤ (U.map (upd f p v)).sum ∧ (p ∈ U → (U.map f).sum + (v - f p) ≤ (U.map (upd f p v)).sum)
  | [], _, _, _, _ => by simp
  | x :: U, f, p, v, h => by
    obtain ⟨a, b⟩ := sum_upd (U := U) h
    rw [List.map_cons, List.map_cons, List.sum_cons, List.sum_cons]
    by_cases e : x = p
    · have : upd f p v x = v := by unfold upd; rw [if_pos e]
      rw [this, e]
      exact ⟨by omega, fun _ => by omega⟩
    · have : upd f p v x = f x := by unfold upd; rw [if_neg e]
      rw [this]
      refine ⟨by omega, fun hp => ?_⟩
      rcases List.mem_cons.mp hp with rfl | hp
      · exact absurd rfl e
      · have := b hp; omega
/-- one pass over some moves -/
theorem pass_all {t : Tal} (h : t.Ok) : ∀ (ms : List (Nat × Nat × Int)) (s : (Nat → Int) × Bool), (∀ z ∈ ms, z ∈ moves t) → Wit t s.1 →
    Wit t (ms.foldl relax s).1 ∧ ((useful t).map s.1).sum ≤ ((useful t).map (ms.foldl relax s).1).sum ∧ (s.2 = true → (ms.foldl relax s).2 = true) ∧
    (s.2 = false → ((ms.foldl relax s).2 = true → ((useful t).map s.1).sum + 1 ≤ ((useful t).map (ms.foldl relax s).1).sum) ∧ ((ms.foldl relax s).2 = false → (ms.foldl relax s).1 = s.1 ∧ ∀ z ∈ ms, s.1 z.1 + z.2.2 ≤ s.1 z.2.1))
  | [], s, _, W => by
    refine ⟨W, Int.le_refl _, id, fun e => ⟨fun e' => ?_, fun _ => ⟨rfl, fun _ h => nomatch h⟩⟩⟩
    rw [List.foldl_nil, e] at e'
    cases e'
  | z :: ms, s, hs, W => by
    have hz := hs z List.mem_cons_self
    obtain ⟨i1, i2, i3, i4⟩ := pass_all h ms (relax s z) (fun y hy => hs y (List.mem_cons_of_mem _ hy)) (relax_wit h W hz)
    rw [List.foldl_cons]
    by_cases e : s.1 z.2.1 < s.1 z.1 + z.2.2
    · have er : relax s z = (upd s.1 z.2.1 (s.1 z.1 + z.2.2), true) := if_pos e
      have hb : z.2.1 ∈ useful t := (mem_moves h (a := z.1) (b := z.2.1) (r := z.2.2) hz).2.1
      have q := sum_upd (U := useful t) (f := s.1) (p := z.2.1) (v := s.1 z.1 + z.2.2) (by omega)
      have q1 := q.1
      have q2 := q.2 hb
      rw [er] at i2 i3
      have i2 : (List.map (upd s.1 z.2.1 (s.1 z.1 + z.2.2)) (useful t)).sum ≤ _ := i2
      have ht : (List.foldl relax (relax s z) ms).2 = true := by rw [er]; exact i3 rfl
      rw [er] at ht i1 ⊢
      refine ⟨i1, by omega, fun _ => ht, fun _ => ⟨fun _ => by omega, fun hf => ?_⟩⟩
      rw [ht] at hf
      cases hf
    · have er : relax s z = s := if_neg e
      rw [er] at i1 i2 i3 i4 ⊢
      refine ⟨i1, i2, i3, fun hf => ⟨(i4 hf).1, fun hf' => ?_⟩⟩
      obtain ⟨a, b⟩ := (i4 hf).2 hf'
      refine ⟨a, fun y hy => ?_⟩
      rcases List.mem_cons.mp hy with rfl | hy
      · omega
      · exact b y hy
theorem wit_sum {t : Tal} {f : Nat → Int} (W : Wit t f) (nd : NoDbl (gph t)) : ∀ {U : List Nat}, (∀ p ∈ U, p ∈ useful t) → (U.map f).sum ≤ ((U.length * t.n : Nat) : Int)
  | [], _ => by simp
  | x :: U, hs => by
    have := wit_sum W nd (U := U) fun p hp => hs p (List.mem_cons_of_mem _ hp)
    obtain ⟨m, e, a, l⟩ := W x (hs x List.mem_cons_self)
    have b := l.bound nd
    have b : m ≤ t.n := b
    rw [List.map_cons, List.sum_cons, e, List.length_cons, Nat.add_mul]
    omega
/-- a closed witness holds the levels -/
theorem closed_lvl {t : Tal} (h : t.Ok) (nd : NoDbl (gph t)) {f : Nat → Int} (W : Wit t f) (C : ∀ z ∈ moves t, f z.1 + z.2.2 ≤ f z.2.1) {p : Nat} (hp : p ∈ useful t) : f p = lvl (gph t) p := by
  obtain ⟨m, e, a, l⟩ := W p hp
  rw [e]
  congr 1
  refine lvl_eq nd ((mem_useful h).mp hp) ⟨a, l⟩ fun a' m' l' => ?_
  have : ∀ {a b k : Nat}, Lev (gph t) a k b → (k : Int) ≤ f b := by
    intro a b k l
    induction l with
    | refl u =>
      obtain ⟨m, e, _⟩ := W _ ((mem_useful h).mpr u)
      rw [e]; omega
    | @move m b c l k u ih =>
      have ub := l.use
      obtain ⟨w, k⟩ := k
      have : ∀ {q : Nat} {w : List Nat}, Path (gph t) b w q → Reach (gph t) q c → f b ≤ f q := by
        intro q w k
        induction k with
        | nil _ => intro _; exact Int.le_refl _
        | @snoc w q c0 r k hc hr he ih2 =>
          intro r2
          have rq : Reach (gph t) q r := ⟨_, Path.one k.lt hr hc he⟩
          have uq := ub.mid u ⟨_, k⟩ (rq.trans r2)
          have ur := ub.mid u ⟨_, k.snoc hc hr he⟩ r2
          have := C _ (moves_step h ((mem_useful h).mpr uq) ((mem_useful h).mpr ur) hc he)
          have i := ih2 (rq.trans r2)
          simp at this
          omega
      have := this k (.refl u.lt)
      omega
    | rise l k ih =>
      have := C _ (moves_rise h k)
      simp at this
      omega
  have := this l'
  rw [e] at this
  omega
/-! ### degree, kind -/
noncomputable def levels (t : Tal) : List Int := (useful t).map fun p => ((lvl (gph t) p : Nat) : Int)
noncomputable def topL (t : Tal) : Nat := (useful t).foldl (fun m p => max m (lvl (gph t) p)) 0
theorem foldmax_le {f : Nat → Nat} : ∀ {U : List Nat} {m k : Nat}, U.foldl (fun m p => max m (f p)) m ≤ k ↔ m ≤ k ∧ ∀ p ∈ U, f p ≤ k
  | [], m, k => by simp
  | x :: U, m, k => by
    rw [List.foldl_cons, foldmax_le]
    simp only [List.mem_cons, forall_eq_or_imp]
    rw [Nat.max_le, and_assoc]
theorem le_top {t : Tal} {p : Nat} (h : p ∈ useful t) : lvl (gph t) p ≤ topL t := (foldmax_le.mp (Nat.le_refl (topL t))).2 p h
theorem top_at {t : Tal} : topL t = 0 ∨ ∃ p ∈ useful t, lvl (gph t) p = topL t := by
  by_cases h : ∃ p ∈ useful t, lvl (gph t) p = topL t
  · exact .inr h
  · refine .inl ?_
    cases e : topL t with
    | zero => rfl
    | succ k =>
      exfalso
      have : topL t ≤ k := foldmax_le.mpr ⟨Nat.zero_le _, fun p hp => by
        have a := le_top hp
        have b : lvl (gph t) p ≠ topL t := fun z => h ⟨p, hp, z⟩
        omega⟩
      omega
noncomputable def kind (t : Tal) : Int := if doubling t = [] then (topL t : Int) else -1
theorem kind_is {t : Tal} (h : t.Ok) : KindIs (gph t) (kind t) := by
  unfold kind
  split
  · rename_i e
    have nd := (dbl_nil h).mp e
    refine .inr ⟨nd, topL t, rfl, ?_, fun a m b l => ?_⟩
    · rcases top_at (t := t) with e | ⟨p, hp, e⟩
      · exact .inl e
      · obtain ⟨⟨a, l⟩, _⟩ := lvl_spec nd ((mem_useful h).mp hp)
        exact .inr ⟨a, p, e ▸ l⟩
    · exact Nat.le_trans ((lvl_spec nd l.use).2 _ _ l) (le_top ((mem_useful h).mpr l.use))
  · rename_i e
    obtain ⟨p, hp⟩ := List.exists_mem_of_ne_nil _ e
    exact .inl ⟨rfl, p, (mem_doubling h).mp hp⟩
end Tly
end
section
set_option linter.all false
set_option maxRecDepth 10000
/-! The papers: few ways, chains, pieces. -/
namespace Tly
open Gm
/-! ### few ways -/
abbrev Ent := Nat × Int × Nat × Int
def entries (t : Tal) (row : List Int) (c : Nat) : List Ent := (row.zipIdx.filter fun z => decide (0 < z.1)).flatMap fun z => ((stepsOf t z.2).filter fun y => decide (y.1 = c)).map fun y => (z.2, z.1, y.2.1, y.2.2)
def addE (fr : List Int) (z : Ent) : List Int := fr.set z.2.2.1 (min 2 (fr.getD z.2.2.1 0 + z.2.1 * z.2.2.2))
def fewStep (t : Tal) (row : List Int) (c : Nat) : List Int := (entries t row c).foldl addE (List.replicate row.length 0)
def few0 (t : Tal) (S : List Nat) : List Int := (List.range t.n).map fun p => if p ∈ S then 1 else 0
def fewWays (t : Tal) (w : List Nat) (S : List Nat) : List Int := w.foldl (fewStep t) (few0 t S)
theorem mem_entries {t : Tal} (h : t.Ok) {row : List Int} (hl : row.length = t.n) {c p q : Nat} {x y : Int} : (p, x, q, y) ∈ entries t row c ↔ p < t.n ∧ row[p]? = some x ∧ 0 < x ∧ c ∈ t.dg ∧ q < t.n ∧ y = ent (tab t c) p q ∧ 0 < y := by
  unfold entries
  rw [List.mem_flatMap]
  constructor
  · rintro ⟨⟨x', p'⟩, h1, h2⟩
    obtain ⟨h3, h4⟩ := List.mem_filter.mp h1
    obtain ⟨⟨c', q', y'⟩, h5, e⟩ := List.mem_map.mp h2
    obtain ⟨h6, h7⟩ := List.mem_filter.mp h5
    have h3 := List.mem_zipIdx_iff_getElem?.mp h3
    have h3 : row[p']? = some x' := h3
    simp only [Prod.mk.injEq] at e
    obtain ⟨e1, e2, e3, e4⟩ := e
    subst e1 e2 e3 e4
    have hp : p' < t.n := by rw [← hl]; exact (List.getElem?_eq_some_iff.mp h3).1
    have e : c' = c := by simpa using h7
    subst e
    obtain ⟨a1, a2, a3, a4⟩ := (mem_steps h hp).mp h6
    exact ⟨hp, h3, by simpa using h4, a1, a2, a3, a4⟩
  · rintro ⟨hp, h3, h4, h5, h6, h7, h8⟩
    exact ⟨(x, p), List.mem_filter.mpr ⟨List.mem_zipIdx_iff_getElem?.mpr h3, by simpa using h4⟩, List.mem_map.mpr ⟨(c, q, y), List.mem_filter.mpr ⟨(mem_steps h hp).mpr ⟨h5, h6, h7, h8⟩, by simp⟩, rfl⟩⟩
theorem addE_len {fr : List Int} {z : Ent} : (addE fr z).length = fr.length := by unfold addE; simp
theorem addE_get {fr : List Int} {z : Ent} {q : Nat} (hq : q < fr.length) : (addE fr z).getD q 0 = if z.2.2.1 = q then min 2 (fr.getD q 0 + z.2.1 * z.2.2.2) else fr.getD q 0 := by
  unfold addE
  rw [List.getD_eq_getElem?_getD, List.getElem?_set]
  split
  · rename_i e
    rw [e]
    simp [hq]
  · rw [List.getD_eq_getElem?_getD]
/-- what the entries add at a place -/
def tot (es : List Ent) (q : Nat) : Int := (es.map fun z => if z.2.2.1 = q then z.2.1 * z.2.2.2 else 0).sum
theorem tot_nn {es : List Ent} (hp : ∀ z ∈ es, 0 ≤ z.2.1 * z.2.2.2) {q : Nat} : 0 ≤ tot es q := by
  induction es with
  | nil => simp [tot]
  | cons z es ih =>
    have a := hp z List.mem_cons_self
    have b := ih fun y hy => hp y (List.mem_cons_of_mem _ hy)
    unfold tot at b ⊢
    rw [List.map_cons, List.sum_cons]
    split <;> omega
theorem foldE {q : Nat} : ∀ (es : List Ent) (fr : List Int), (∀ z ∈ es, 0 ≤ z.2.1 * z.2.2.2) → q < fr.length → 0 ≤ fr.getD q 0 → fr.getD q 0 ≤ 2 → (es.foldl addE fr).getD q 0 = min 2 (fr.getD q 0 + tot es q)
  | [], fr, _, _, h0, h2 => by
    show fr.getD q 0 = min 2 (fr.getD q 0 + 0)
    omega
  | z :: es, fr, hp, hq, h0, h2 => by
    have a := hp z List.mem_cons_self
    have hp' : ∀ z ∈ es, 0 ≤ z.2.1 * z.2.2.2 := fun y hy => hp y (List.mem_cons_of_mem _ hy)
    have b := tot_nn hp' (q := q)
    have g := addE_get (z := z) hq
    have i := foldE es (addE fr z) hp' (by rw [addE_len]; exact hq)
    rw [List.foldl_cons]
    have e : tot (z :: es) q = (if z.2.2.1 = q then z.2.1 * z.2.2.2 else 0) + tot es q := by unfold tot; rw [List.map_cons, List.sum_cons]
    rw [g] at i
    split at g
    · rename_i eq
      rw [if_pos eq] at i e
      rw [i (by omega) (by omega), e]
      omega
    · rename_i eq
      rw [if_neg eq] at i e
      rw [i h0 h2, e]
      omega
theorem foldE_len : ∀ (es : List Ent) (fr : List Int), (es.foldl addE fr).length = fr.length
  | [], _ => rfl
  | z :: es, fr => by rw [List.foldl_cons, foldE_len, addE_len]
theorem fewStep_len {t : Tal} {row : List Int} {c : Nat} : (fewStep t row c).length = row.length := by
  unfold fewStep
  rw [foldE_len, List.length_replicate]
theorem ents_nn {t : Tal} (h : t.Ok) {row : List Int} (hl : row.length = t.n) {c : Nat} : ∀ z ∈ entries t row c, 0 ≤ z.2.1 * z.2.2.2 := by
  rintro ⟨p, x, q, y⟩ hz
  obtain ⟨_, _, a, _, _, _, b⟩ := (mem_entries h hl).mp hz
  exact Int.le_of_lt (Int.mul_pos a b)
theorem getD_rep {n q : Nat} : (List.replicate n (0 : Int)).getD q 0 = 0 := by
  rw [List.getD_eq_getElem?_getD, List.getElem?_replicate]
  split <;> rfl
theorem fewStep_get {t : Tal} (h : t.Ok) {row : List Int} (hl : row.length = t.n) {c q : Nat} (hq : q < t.n) : (fewStep t row c).getD q 0 = min 2 (tot (entries t row c) q) := by
  unfold fewStep
  rw [foldE (entries t row c) _ (ents_nn h hl) (by rw [List.length_replicate, hl]; exact hq) (by rw [getD_rep]; decide) (by rw [getD_rep]; decide), getD_rep, Int.zero_add]
theorem sum_one {α : Type} {v : α → Int} : ∀ {l : List α}, (∀ x ∈ l, 0 ≤ v x) → 0 ≤ (l.map v).sum ∧ (∀ x ∈ l, v x ≤ (l.map v).sum) ∧ ∀ x ∈ l, ∀ y ∈ l, x ≠ y → v x + v y ≤ (l.map v).sum
  | [], _ => by simp
  | a :: l, h => by
    obtain ⟨i1, i2, i3⟩ := sum_one (l := l) fun x hx => h x (List.mem_cons_of_mem _ hx)
    have ha := h a List.mem_cons_self
    rw [List.map_cons, List.sum_cons]
    refine ⟨by omega, fun x hx => ?_, fun x hx y hy n => ?_⟩
    · rcases List.mem_cons.mp hx with rfl | hx
      · omega
      · have := i2 x hx; omega
    · rcases List.mem_cons.mp hx with ex | hx
      · rcases List.mem_cons.mp hy with ey | hy
        · exact absurd (ex.trans ey.symm) n
        · have := i2 y hy; rw [ex]; omega
      · rcases List.mem_cons.mp hy with ey | hy
        · have := i2 x hx; rw [ey]; omega
        · have := i3 x hx y hy n; omega
theorem tot_one {t : Tal} (h : t.Ok) {row : List Int} (hl : row.length = t.n) {c p q : Nat} (hc : c ∈ t.dg) (hp : p < t.n) (hq : q < t.n) (hx : 0 < row.getD p 0) (he : 0 < (gph t).e c p q) : row.getD p 0 * ent (tab t c) p q ≤ tot (entries t row c) q := by
  have er : row[p]? = some (row.getD p 0) := by
    rw [List.getD_eq_getElem?_getD, List.getElem?_eq_getElem (by omega)]; rfl
  have hm := (mem_entries (row := row) h hl).mpr ⟨hp, er, hx, hc, hq, rfl, gph_pos.mp he⟩
  have := (sum_one (v := fun z : Ent => if z.2.2.1 = q then z.2.1 * z.2.2.2 else 0) (l := entries t row c) fun z hz => by
    have := ents_nn h hl z hz
    show 0 ≤ if z.2.2.1 = q then z.2.1 * z.2.2.2 else 0
    split <;> omega).2.1 _ hm
  simpa [tot] using this
theorem tot_two {t : Tal} (h : t.Ok) {row : List Int} (hl : row.length = t.n) {c p p' q : Nat} (hc : c ∈ t.dg) (hp : p < t.n) (hp' : p' < t.n) (n : p ≠ p') (hq : q < t.n) (hx : 0 < row.getD p 0) (hx' : 0 < row.getD p' 0) (he : 0 < (gph t).e c p q) (he' : 0 < (gph t).e c p' q) : row.getD p 0 * ent (tab t c) p q + row.getD p' 0 * ent (tab t c) p' q ≤ tot (entries t row c) q := by
  have er : row[p]? = some (row.getD p 0) := by
    rw [List.getD_eq_getElem?_getD, List.getElem?_eq_getElem (by omega)]; rfl
  have er' : row[p']? = some (row.getD p' 0) := by
    rw [List.getD_eq_getElem?_getD, List.getElem?_eq_getElem (by omega)]; rfl
  have hm := (mem_entries (row := row) h hl).mpr ⟨hp, er, hx, hc, hq, rfl, gph_pos.mp he⟩
  have hm' := (mem_entries (row := row) h hl).mpr ⟨hp', er', hx', hc, hq, rfl, gph_pos.mp he'⟩
  have := (sum_one (v := fun z : Ent => if z.2.2.1 = q then z.2.1 * z.2.2.2 else 0) (l := entries t row c) fun z hz => by
    have := ents_nn h hl z hz
    show 0 ≤ if z.2.2.1 = q then z.2.1 * z.2.2.2 else 0
    split <;> omega).2.2 _ hm _ hm' (fun e => n (by injection e))
  simpa [tot] using this
theorem mul_ge1 {a b : Int} (ha : 1 ≤ a) (hb : 1 ≤ b) : 1 ≤ a * b := by
  have := Int.mul_pos (a := a) (b := b) (by omega) (by omega)
  omega
theorem mul_ge2 {a b : Int} (ha : 2 ≤ a) (hb : 1 ≤ b) : 2 ≤ a * b := by
  have := Int.mul_le_mul_of_nonneg_left hb (show (0 : Int) ≤ a by omega)
  omega
theorem mul_ge2' {a b : Int} (ha : 1 ≤ a) (hb : 2 ≤ b) : 2 ≤ a * b := by
  rw [Int.mul_comm]; exact mul_ge2 hb ha
theorem few0_len {t : Tal} {S : List Nat} : (few0 t S).length = t.n := by unfold few0; simp
theorem few0_get {t : Tal} {S : List Nat} {p : Nat} (hp : p < t.n) : (few0 t S).getD p 0 = if p ∈ S then 1 else 0 := by
  unfold few0
  rw [List.getD_eq_getElem?_getD, List.getElem?_map, List.getElem?_range hp]
  rfl
theorem few_len {t : Tal} {S : List Nat} : ∀ {w : List Nat} {r : List Int}, r.length = t.n → (w.foldl (fewStep t) r).length = t.n
  | [], _, h => h
  | c :: w, r, h => few_len (S := S) (w := w) (by rw [fewStep_len, h])
theorem few_pw {t : Tal} (h : t.Ok) {S : List Nat} {x y : Nat} (hx : x ∈ S) (hy : y ∈ S) {w : List Nat} {x1 y1 : Nat} {b : Bool} (k : PW (gph t) x y w x1 y1 b) :
    1 ≤ (fewWays t w S).getD x1 0 ∧ 1 ≤ (fewWays t w S).getD y1 0 ∧ (x = y → b = true → x1 = y1 → 2 ≤ (fewWays t w S).getD x1 0) := by
  induction k with
  | nil h1 h2 =>
    refine ⟨?_, ?_, fun _ e => by cases e⟩
    · show 1 ≤ (few0 t S).getD x 0
      rw [few0_get h1, if_pos hx]; decide
    · show 1 ≤ (few0 t S).getD y 0
      rw [few0_get h2, if_pos hy]; decide
  | @snoc w x1 y1 x2 y2 c b k hc l1 l2 e1 e2 ih =>
    obtain ⟨i1, i2, i3⟩ := ih
    have hl : (fewWays t w S).length = t.n := few_len (S := S) few0_len
    have ew : fewWays t (w ++ [c]) S = fewStep t (fewWays t w S) c := by unfold fewWays; rw [List.foldl_append]; rfl
    have m1 : 1 ≤ ent (tab t c) x1 x2 := gph_pos.mp e1
    have m2 : 1 ≤ ent (tab t c) y1 y2 := gph_pos.mp e2
    rw [ew, fewStep_get h hl l1, fewStep_get h hl l2]
    have t1 := tot_one h hl hc k.left.lt l1 (by omega) e1
    have t2 := tot_one h hl hc k.right.lt l2 (by omega) e2
    have g1 := mul_ge1 i1 m1
    have g2 := mul_ge1 i2 m2
    refine ⟨by omega, by omega, fun exy hb e => ?_⟩
    subst e
    by_cases n : x1 = y1
    · subst n
      cases b with
      | true =>
        have := mul_ge2 (i3 exy rfl rfl) m1
        omega
      | false =>
        have hb : 1 < (gph t).e c x1 x2 * (gph t).e c x1 x2 := by simpa using hb
        have : 2 ≤ ent (tab t c) x1 x2 := by
          have : (gph t).e c x1 x2 ≠ 1 := fun z => by rw [z] at hb; simp at hb
          have e : (gph t).e c x1 x2 = (ent (tab t c) x1 x2).toNat := rfl
          omega
        have := mul_ge2' i1 this
        omega
    · have := tot_two h hl hc k.left.lt k.right.lt n l1 (by omega) (by omega) e1 e2
      omega
def leads (t : Tal) (w S T : List Nat) : Bool := T.any fun g => decide (0 < (fewWays t w S).getD g 0)
theorem leads_of {t : Tal} (h : t.Ok) {S T w : List Nat} {p q : Nat} (hp : p ∈ S) (hq : q ∈ T) (k : Path (gph t) p w q) : leads t w S T = true := by
  obtain ⟨b, k2⟩ := PW.of k k
  have := (few_pw h hp hp k2).1
  unfold leads
  rw [List.any_eq_true]
  exact ⟨q, hq, by simpa using (by omega : 0 < (fewWays t w S).getD q 0)⟩
theorem few_dbl {t : Tal} (h : t.Ok) {s : Nat} {w : List Nat} (k : PW (gph t) s s w s s true) : 2 ≤ (fewWays t w [s]).getD s 0 := (few_pw h (S := [s]) (by simp) (by simp) k).2.2 rfl rfl rfl
theorem path_dg {t : Tal} {p q : Nat} {w : List Nat} (k : Path (gph t) p w q) : ∀ c ∈ w, c ∈ t.dg := by
  induction k with
  | nil _ => intro c hc; cases hc
  | snoc _ hc _ _ ih =>
    intro d hd
    rcases List.mem_append.mp hd with hd | hd
    · exact ih d hd
    · rw [List.mem_singleton.mp hd]; exact hc
end Tly
end
section
set_option linter.all false
set_option maxRecDepth 10000
/-! Chains and pieces. -/
namespace Tly
open Gm
noncomputable def lv (t : Tal) (p : Nat) : Int := ((lvl (gph t) p : Nat) : Int)
noncomputable def cands (t : Tal) (here : Nat) : List (Nat × Nat) := (rises t).filter fun z => decide (lv t z.1 = lv t here - 1) && decide (lv t here - 1 = lv t z.2 - 1)
noncomputable def link (t : Tal) (here : Nat) : Option (Nat × Nat) := (cands t here).find? fun z => (between t [z.2] [here]).isSome
theorem mem_cands {t : Tal} (h : t.Ok) {here : Nat} {z : Nat × Nat} : z ∈ cands t here ↔ Rise (gph t) z.1 z.2 ∧ lvl (gph t) z.1 + 1 = lvl (gph t) here ∧ lvl (gph t) z.2 = lvl (gph t) here := by
  obtain ⟨a, b⟩ := z
  unfold cands
  rw [List.mem_filter, mem_rises h, Bool.and_eq_true, decide_eq_true_eq, decide_eq_true_eq]
  show _ ∧ (((lvl (gph t) a : Nat) : Int) = ((lvl (gph t) here : Nat) : Int) - 1 ∧ ((lvl (gph t) here : Nat) : Int) - 1 = ((lvl (gph t) b : Nat) : Int) - 1) ↔ _
  constructor
  · rintro ⟨r, h1, h2⟩
    exact ⟨r, show lvl (gph t) a + 1 = lvl (gph t) here by omega, show lvl (gph t) b = lvl (gph t) here by omega⟩
  · rintro ⟨r, h1, h2⟩
    have h1 : lvl (gph t) a + 1 = lvl (gph t) here := h1
    have h2 : lvl (gph t) b = lvl (gph t) here := h2
    exact ⟨r, by omega, by omega⟩
theorem link_some {t : Tal} (h : t.Ok) {here : Nat} {z : Nat × Nat} (e : link t here = some z) : Rise (gph t) z.1 z.2 ∧ lvl (gph t) z.1 + 1 = lvl (gph t) here ∧ Reach (gph t) z.2 here := by
  have h1 := List.find?_some e
  have h2 := List.mem_of_find?_eq_some e
  obtain ⟨a, b, c⟩ := (mem_cands h).mp h2
  obtain ⟨w, hw⟩ := Option.isSome_iff_exists.mp h1
  obtain ⟨p, hp, q, hq, k⟩ := b_some h hw
  rw [List.mem_singleton.mp hp, List.mem_singleton.mp hq] at k
  exact ⟨a, b, w, k⟩
theorem link_ex {t : Tal} (h : t.Ok) (nd : NoDbl (gph t)) {here : Nat} (u : here ∈ useful t) (hl : 0 < lvl (gph t) here) : ∃ z, link t here = some z := by
  obtain ⟨x, y, r, e1, e2, k⟩ := lvl_down nd ((mem_useful h).mp u) hl
  cases e : link t here with
  | some z => exact ⟨z, rfl⟩
  | none =>
    exfalso
    have := List.find?_eq_none.mp e (x, y) ((mem_cands h).mpr ⟨r, e1, e2⟩)
    obtain ⟨w, hw⟩ := b_isSome h (S := [y]) (T := [here]) (by simp) (by simp) k
    rw [hw] at this
    exact this rfl
noncomputable def chainL (t : Tal) : Nat → Nat → List (Nat × Nat)
  | 0, _ => []
  | k + 1, here => match link t here with
    | some z => z :: chainL t k z.1
    | none => []
noncomputable def chain (t : Tal) (goal : Nat) : List (Nat × Nat) := (chainL t (lvl (gph t) goal) goal).reverse
theorem chainL_len {t : Tal} (h : t.Ok) (nd : NoDbl (gph t)) : ∀ {k here : Nat}, here ∈ useful t → lvl (gph t) here = k → (chainL t k here).length = k
  | 0, _, _, _ => rfl
  | k + 1, here, u, e => by
    obtain ⟨z, hz⟩ := link_ex h nd u (by omega)
    obtain ⟨r, e1, _⟩ := link_some h hz
    unfold chainL
    rw [hz]
    show (chainL t k z.1).length + 1 = _
    rw [chainL_len h nd ((mem_useful h).mpr r.2.1) (by omega)]
def Fwd (t : Tal) : List Nat → List (Nat × Nat) → Prop
  | S, [] => ∃ p ∈ S, ∃ g ∈ goals t, Reach (gph t) p g
  | S, z :: l => (∃ p ∈ S, Reach (gph t) p z.1) ∧ Rise (gph t) z.1 z.2 ∧ Fwd t [z.2] l
theorem fwd_chain {t : Tal} (h : t.Ok) (nd : NoDbl (gph t)) : ∀ {k here : Nat} {l : List (Nat × Nat)}, here ∈ useful t → lvl (gph t) here = k → (∀ S, (∃ p ∈ S, Reach (gph t) p here) → Fwd t S l) → Fwd t (starts t) ((chainL t k here).reverse ++ l)
  | 0, here, l, u, _, f => by
    obtain ⟨⟨a, ha, r⟩, _⟩ := (mem_useful h).mp u
    exact f _ ⟨a, mem_starts.mpr ⟨r.lt0, ha⟩, r⟩
  | k + 1, here, l, u, e, f => by
    obtain ⟨z, hz⟩ := link_ex h nd u (by omega)
    obtain ⟨r, e1, r2⟩ := link_some h hz
    unfold chainL
    rw [hz]
    show Fwd t (starts t) ((z :: chainL t k z.1).reverse ++ l)
    rw [List.reverse_cons, List.append_assoc]
    exact fwd_chain h nd ((mem_useful h).mpr r.2.1) (by omega) fun S hS => ⟨hS, r, f _ ⟨z.2, by simp, r2⟩⟩
theorem chain_fwd {t : Tal} (h : t.Ok) (nd : NoDbl (gph t)) {goal : Nat} (u : goal ∈ useful t) : Fwd t (starts t) (chain t goal) := by
  have := fwd_chain (l := []) h nd u rfl (fun S ⟨p, hp, r⟩ => by
    obtain ⟨_, b, hb, r2⟩ := (mem_useful h).mp u
    exact ⟨p, hp, b, mem_goals.mpr ⟨r2.lt, hb⟩, r.trans r2⟩)
  rw [List.append_nil] at this
  exact this
def hereAt (S : List Nat) (l : List (Nat × Nat)) : Nat → List Nat
  | 0 => S
  | i + 1 => [(l.getD i (0, 0)).2]
theorem hereAt_cons {S : List Nat} {z : Nat × Nat} {l : List (Nat × Nat)} {i : Nat} : hereAt S (z :: l) (i + 1) = hereAt [z.2] l i := by
  cases i with
  | zero => rfl
  | succ i => rfl
theorem fwd_at {t : Tal} : ∀ {l : List (Nat × Nat)} {S : List Nat}, Fwd t S l → (∀ i z, l[i]? = some z → (∃ p ∈ hereAt S l i, Reach (gph t) p z.1) ∧ Rise (gph t) z.1 z.2) ∧ ∃ p ∈ hereAt S l l.length, ∃ g ∈ goals t, Reach (gph t) p g
  | [], S, h => ⟨fun i z e => by simp at e, h⟩
  | z :: l, S, ⟨h1, h2, h3⟩ => by
    obtain ⟨a, b⟩ := fwd_at h3
    refine ⟨fun i y e => ?_, ?_⟩
    · cases i with
      | zero =>
        have : z = y := by simpa using e
        subst this
        exact ⟨h1, h2⟩
      | succ i =>
        rw [hereAt_cons]
        exact a i y (by simpa using e)
    · rw [List.length_cons, hereAt_cons]
      exact b
abbrev Piece := List Nat × Nat × List Nat × Nat
def piece (t : Tal) (S : List Nat) (z : Nat × Nat) : Piece := ((between t S [z.1]).getD [], z.1, (rLoop t z.1 z.2).getD [], z.2)
def piecesL (t : Tal) (l : List (Nat × Nat)) : List Piece := l.zipIdx.map fun y => piece t (hereAt (starts t) l y.2) y.1
theorem pieces_len {t : Tal} {l : List (Nat × Nat)} : (piecesL t l).length = l.length := by unfold piecesL; simp
theorem pieces_at {t : Tal} {l : List (Nat × Nat)} {i : Nat} {z : Nat × Nat} (e : l[i]? = some z) : (piecesL t l)[i]? = some (piece t (hereAt (starts t) l i) z) := by
  unfold piecesL
  rw [List.getElem?_map, List.getElem?_zipIdx, e]
  simp
theorem getD_some {α : Type} {o : Option α} {d : α} (h : ∃ x, o = some x) : o = some (o.getD d) := by
  obtain ⟨x, rfl⟩ := h; rfl
/-- a piece that its rise and a way to it make -/
theorem piece_ok {t : Tal} (h : t.Ok) {S : List Nat} {z : Nat × Nat} (hr : ∃ p ∈ S, Reach (gph t) p z.1) (r : Rise (gph t) z.1 z.2) :
    between t S [z.1] = some (piece t S z).1 ∧ rLoop t z.1 z.2 = some (piece t S z).2.2.1 ∧ (∃ p ∈ S, Path (gph t) p (piece t S z).1 z.1) ∧ Loop3 (gph t) (piece t S z).2.2.1 z.1 z.2 ∧ (piece t S z).2.2.1 ≠ [] := by
  obtain ⟨p, hp, k⟩ := hr
  have e1 : between t S [z.1] = some ((between t S [z.1]).getD []) := getD_some (b_isSome h hp (by simp) k)
  have e2 : rLoop t z.1 z.2 = some ((rLoop t z.1 z.2).getD []) := by
    obtain ⟨n, up, uq, w, l⟩ := r
    refine getD_some ?_
    cases e : rLoop t z.1 z.2 with
    | some w => exact ⟨w, rfl⟩
    | none => exact absurd l (r_none h up.lt uq.lt n e)
  obtain ⟨p', hp', q', hq', k'⟩ := b_some h e1
  rw [List.mem_singleton.mp hq'] at k'
  obtain ⟨l1, l2⟩ := r_some h r.2.1.lt r.2.2.1.lt e2
  exact ⟨e1, e2, ⟨p', hp', k'⟩, l1, l2⟩
/-- the goal of the chain -/
noncomputable def peaks (t : Tal) : List Nat := (useful t).filter fun p => decide (lv t p = topL t)
theorem peaks_ne {t : Tal} (h : 0 < topL t) : ∃ g r, peaks t = g :: r ∧ g ∈ useful t ∧ lvl (gph t) g = topL t := by
  rcases top_at (t := t) with e | ⟨p, hp, e⟩
  · omega
  · cases q : peaks t with
    | nil =>
      have : p ∈ peaks t := List.mem_filter.mpr ⟨hp, by show decide (((lvl (gph t) p : Nat) : Int) = _) = true; rw [e]; simp⟩
      rw [q] at this
      cases this
    | cons g r =>
      have : g ∈ peaks t := by rw [q]; exact List.mem_cons_self
      obtain ⟨a, b⟩ := List.mem_filter.mp this
      have b : lv t g = topL t := by simpa using b
      have b : ((lvl (gph t) g : Nat) : Int) = topL t := b
      exact ⟨g, r, rfl, a, by omega⟩
theorem chain_len {t : Tal} (h : t.Ok) (nd : NoDbl (gph t)) {goal : Nat} (u : goal ∈ useful t) : (chain t goal).length = lvl (gph t) goal := by
  unfold chain
  rw [List.length_reverse, chainL_len h nd u rfl]
end Tly
end
section
set_option linter.all false
set_option maxRecDepth 10000
/-! The tallies that are made of tallies. -/
namespace Tly
open Gm
def NN (m : Tab) : Prop := ∀ r ∈ m, ∀ x ∈ r, 0 ≤ x
theorem getD_nn {r : Row} (h : ∀ x ∈ r, 0 ≤ x) {i : Nat} : 0 ≤ r.getD i 0 := by
  rw [List.getD_eq_getElem?_getD]
  cases e : r[i]? with
  | none => exact Int.le_refl 0
  | some x => exact h x (List.mem_of_getElem? e)
theorem tab_at {t : Tal} (nd : t.dg.Nodup) {j c : Nat} {m : Tab} (h1 : t.dg[j]? = some c) (h2 : t.tables[j]? = some m) : tab t c = m := by
  unfold tab
  rw [lookup_zipN nd h1 h2]; rfl
theorem tab_get {t : Tal} (h : t.Ok) {c : Nat} (hc : c ∈ t.dg) : ∃ j : Nat, t.dg[j]? = some c ∧ t.tables[j]? = some (tab t c) := by
  have := (mem_zip h).mpr ⟨hc, rfl⟩
  obtain ⟨j, hj⟩ := List.mem_iff_getElem?.mp this
  exact ⟨j, List.getElem?_zip_eq_some.mp hj⟩
theorem tab_map {t t' : Tal} (h : t.Ok) (hd : t'.dg = t.dg) {g : Tab → Tab} (ht : t'.tables = t.tables.map g) {c : Nat} (hc : c ∈ t.dg) : tab t' c = g (tab t c) := by
  obtain ⟨j, h1, h2⟩ := tab_get h hc
  refine tab_at (j := j) (by rw [hd]; exact h.dnd) (by rw [hd]; exact h1) ?_
  rw [ht, List.getElem?_map, h2]; rfl
theorem tab_zip {a b t' : Tal} (ha : a.Ok) (hb : b.Ok) (e : a.dg = b.dg) (hd : t'.dg = a.dg) {g : Tab → Tab → Tab} (ht : t'.tables = List.zipWith g a.tables b.tables) {c : Nat} (hc : c ∈ a.dg) : tab t' c = g (tab a c) (tab b c) := by
  obtain ⟨j, h1, h2⟩ := tab_get ha hc
  have hl : j < b.tables.length := by
    rw [hb.len, ← e]
    exact (List.getElem?_eq_some_iff.mp h1).1
  have h3 : b.tables[j]? = some b.tables[j] := List.getElem?_eq_getElem hl
  have e3 := tab_at (t := b) hb.dnd (by rw [← e]; exact h1) h3
  refine tab_at (j := j) (by rw [hd]; exact ha.dnd) (by rw [hd]; exact h1) ?_
  rw [ht, List.getElem?_zipWith, h2, h3, e3]
theorem tab_out {t : Tal} {c : Nat} (hc : c ∉ t.dg) : tab t c = [] := by
  unfold tab
  cases e : (t.dg.zip t.tables).lookup c with
  | none => rfl
  | some m =>
    exfalso
    have : ∀ {l : List (Nat × Tab)}, l.lookup c = some m → c ∈ l.map (·.1) := by
      intro l
      induction l with
      | nil => intro h; cases h
      | cons z l ih =>
        obtain ⟨a, b⟩ := z
        rw [List.lookup_cons]
        split
        · rename_i e
          intro _
          have : c = a := by simpa using e
          simp [this]
        · intro h
          exact List.mem_cons_of_mem _ (ih h)
    have := this e
    obtain ⟨⟨a, b⟩, h1, h2⟩ := List.mem_map.mp this
    have h2 : a = c := h2
    subst h2
    exact hc (List.of_mem_zip h1).1
theorem ent_nil {i j : Nat} : ent [] i j = 0 := by simp [ent]
/-! ### beside -/
def besideT (near far : Tab) (br : Tab) : Tab := near.zipIdx.map (fun z => z.1 ++ br.getD z.2 []) ++ far.map fun r => List.replicate near.length 0 ++ r
section
variable {nA nB : Nat} {near far br : Tab}
theorem bs_near (hn : SqT' nA near) {p : Nat} (hp : p < nA) : (besideT near far br).getD p [] = near.getD p [] ++ br.getD p [] := by
  obtain ⟨r, e1, e2, e3⟩ := ent_row hn hp
  unfold besideT
  rw [List.getD_eq_getElem?_getD, List.getElem?_append_left (by simp [hn.1]; exact hp), List.getElem?_map, List.getElem?_zipIdx, e1, e2]
  simp
theorem bs_far (hn : SqT' nA near) (hf : SqT' nB far) {p : Nat} (hp : p < nB) : (besideT near far br).getD (nA + p) [] = List.replicate nA 0 ++ far.getD p [] := by
  obtain ⟨r, e1, e2, e3⟩ := ent_row hf hp
  unfold besideT
  have hl : (near.zipIdx.map (fun z => z.1 ++ br.getD z.2 [])).length = nA := by simp [hn.1]
  rw [List.getD_eq_getElem?_getD, List.getElem?_append_right (by rw [hl]; omega), hl, Nat.add_sub_cancel_left, List.getElem?_map, e1, hn.1, e2]
  rfl
theorem bs_nn (hn : SqT' nA near) {p q : Nat} (hp : p < nA) (hq : q < nA) : ent (besideT near far br) p q = ent near p q := by
  obtain ⟨r, e1, e2, e3⟩ := ent_row hn hp
  unfold ent
  rw [bs_near hn hp, List.getD_eq_getElem?_getD, List.getElem?_append_left (by rw [e2, e3]; exact hq), ← List.getD_eq_getElem?_getD]
theorem bs_nf (hn : SqT' nA near) {p q : Nat} (hp : p < nA) : ent (besideT near far br) p (nA + q) = ent br p q := by
  obtain ⟨r, e1, e2, e3⟩ := ent_row hn hp
  unfold ent
  rw [bs_near hn hp, List.getD_eq_getElem?_getD, List.getElem?_append_right (by rw [e2, e3]; omega), e2, e3, Nat.add_sub_cancel_left, ← List.getD_eq_getElem?_getD]
theorem bs_ff (hn : SqT' nA near) (hf : SqT' nB far) {p q : Nat} (hp : p < nB) : ent (besideT near far br) (nA + p) (nA + q) = ent far p q := by
  unfold ent
  rw [bs_far hn hf hp, List.getD_eq_getElem?_getD, List.getElem?_append_right (by simp), List.length_replicate, Nat.add_sub_cancel_left, ← List.getD_eq_getElem?_getD]
theorem bs_fn (hn : SqT' nA near) (hf : SqT' nB far) {p q : Nat} (hp : p < nB) (hq : q < nA) : ent (besideT near far br) (nA + p) q = 0 := by
  unfold ent
  rw [bs_far hn hf hp, List.getD_eq_getElem?_getD, List.getElem?_append_left (by simpa using hq), List.getElem?_replicate]
  simp [hq]
theorem bs_sq (hn : SqT' nA near) (hf : SqT' nB far) (hb : br.length = nA) (hb2 : ∀ r ∈ br, r.length = nB) : SqT' (nA + nB) (besideT near far br) := by
  refine ⟨by unfold besideT; simp [hn.1, hf.1], fun r hr => ?_⟩
  unfold besideT at hr
  rcases List.mem_append.mp hr with hr | hr
  · obtain ⟨⟨x, i⟩, hz, rfl⟩ := List.mem_map.mp hr
    have h1 := List.mem_zipIdx_iff_getElem?.mp hz
    have h1 : near[i]? = some x := h1
    have hi : i < nA := by rw [← hn.1]; exact (List.getElem?_eq_some_iff.mp h1).1
    have h2 : br[i]? = some br[i] := List.getElem?_eq_getElem (by omega)
    show (x ++ br.getD i []).length = _
    rw [List.length_append, hn.2 x (List.mem_of_getElem? h1), List.getD_eq_getElem?_getD, h2]
    show nA + (br[i]).length = _
    rw [hb2 _ (List.getElem_mem _)]
  · obtain ⟨x, hx, rfl⟩ := List.mem_map.mp hr
    rw [List.length_append, List.length_replicate, hn.1, hf.2 x hx]
theorem bs_all {P : Int → Prop} (h0 : P 0) (hn : ∀ r ∈ near, ∀ x ∈ r, P x) (hf : ∀ r ∈ far, ∀ x ∈ r, P x) (hb : ∀ r ∈ br, ∀ x ∈ r, P x) : ∀ r ∈ besideT near far br, ∀ x ∈ r, P x := by
  intro r hr x hx
  unfold besideT at hr
  rcases List.mem_append.mp hr with hr | hr
  · obtain ⟨⟨y, i⟩, hz, rfl⟩ := List.mem_map.mp hr
    rcases List.mem_append.mp hx with hx | hx
    · exact hn y (List.mem_of_getElem? (List.mem_zipIdx_iff_getElem?.mp hz)) x hx
    · rw [List.getD_eq_getElem?_getD] at hx
      cases e : br[i]? with
      | none =>
        have hx : x ∈ (br[i]?).getD [] := hx
        rw [e] at hx; cases hx
      | some y =>
        have hx : x ∈ (br[i]?).getD [] := hx
        rw [e] at hx
        exact hb y (List.mem_of_getElem? e) x hx
  · obtain ⟨y, hy, rfl⟩ := List.mem_map.mp hr
    rcases List.mem_append.mp hx with hx | hx
    · rw [(List.mem_replicate.mp hx).2]; exact h0
    · exact hf y hy x hx
theorem bs_pos (hn : NN near) (hf : NN far) (hb : NN br) : NN (besideT near far br) := bs_all (Int.le_refl 0) hn hf hb
end
theorem getD_app {a b : Row} {p : Nat} (hp : p < a.length) : (a ++ b).getD p 0 = a.getD p 0 := by
  rw [List.getD_eq_getElem?_getD, List.getElem?_append_left hp, ← List.getD_eq_getElem?_getD]
theorem getD_app2 {a b : Row} {n p : Nat} (hn : a.length = n) : (a ++ b).getD (n + p) 0 = b.getD p 0 := by
  rw [List.getD_eq_getElem?_getD, List.getElem?_append_right (by omega), hn, Nat.add_sub_cancel_left, ← List.getD_eq_getElem?_getD]
theorem zip_mem {α β γ : Type} {g : α → β → γ} {z : γ} : ∀ {as : List α} {bs : List β}, z ∈ List.zipWith g as bs → ∃ x ∈ as, ∃ y ∈ bs, z = g x y
  | [], _, h => by simp at h
  | _ :: _, [], h => by simp at h
  | a :: as, b :: bs, h => by
    rw [List.zipWith_cons_cons] at h
    rcases List.mem_cons.mp h with rfl | h
    · exact ⟨a, by simp, b, by simp, rfl⟩
    · obtain ⟨x, hx, y, hy, e⟩ := zip_mem h
      exact ⟨x, by simp [hx], y, by simp [hy], e⟩
/-! ### added -/
def noBr (n m : Nat) : Tab := List.replicate n (List.replicate m 0)
def addedT (a b : Tal) : Tal where
  dg := a.dg
  start := a.start ++ b.start
  tables := List.zipWith (fun x y => besideT x y (noBr a.n b.n)) a.tables b.tables
  ends := a.ends ++ b.ends
theorem noBr_ent {n m p q : Nat} : ent (noBr n m) p q = 0 := by
  have e : (noBr n m).getD p [] = if p < n then List.replicate m 0 else [] := by
    unfold noBr
    rw [List.getD_eq_getElem?_getD, List.getElem?_replicate]
    split <;> rfl
  unfold ent
  rw [e]
  split
  · exact getD_rep
  · exact getD_rep (n := 0)
theorem added_n {a b : Tal} : (addedT a b).n = a.n + b.n := by show (a.start ++ b.start).length = _; rw [List.length_append]; rfl
theorem added_ok {a b : Tal} (ha : a.Ok) (hb : b.Ok) (e : a.dg = b.dg) (hs : a.n + b.n ≤ 9) : (addedT a b).Ok where
  pos := by rw [added_n]; have := ha.pos; omega
  sml := by rw [added_n]; exact hs
  ends := by rw [added_n]; show (a.ends ++ b.ends).length = _; rw [List.length_append, ha.ends, hb.ends]
  tabs := fun m hm => by
    obtain ⟨x, hx, y, hy, rfl⟩ := zip_mem hm
    rw [added_n]
    exact bs_sq (ha.tabs x hx) (hb.tabs y hy) (by unfold noBr; simp) fun r hr => by
      rw [(List.mem_replicate.mp hr).2]; simp
  len := by show (List.zipWith _ _ _).length = a.dg.length; rw [List.length_zipWith, ha.len, hb.len, e, Nat.min_self]
  dgs := ha.dgs
  nn := fun m hm => by
    obtain ⟨x, hx, y, hy, rfl⟩ := zip_mem hm
    exact bs_pos (ha.nn x hx) (hb.nn y hy) fun r hr x hx => by
      rw [(List.mem_replicate.mp hr).2] at hx
      rw [(List.mem_replicate.mp hx).2]; exact Int.le_refl 0
  nnS := fun x hx => (List.mem_append.mp hx).elim (ha.nnS x) (hb.nnS x)
  nnE := fun x hx => (List.mem_append.mp hx).elim (ha.nnE x) (hb.nnE x)
  bd := fun m hm => by
    obtain ⟨x, hx, y, hy, rfl⟩ := zip_mem hm
    exact bs_all (P := fun x => x ≤ 1000) (by decide) (ha.bd x hx) (hb.bd y hy) fun r hr x hx => by
      rw [(List.mem_replicate.mp hr).2] at hx
      rw [(List.mem_replicate.mp hx).2]; decide
theorem beh_of {a b t : Tal} (ha : a.Ok) (hb : b.Ok) (e : a.dg = b.dg) (hd : t.dg = a.dg) (hn : t.n = a.n + b.n) {br : Tab → Tab} (ht : t.tables = List.zipWith (fun x y => besideT x y (br x)) a.tables b.tables) : Beh (gph a) (gph b) (gph t) := by
  have tz : ∀ {c}, c ∈ a.dg → tab t c = besideT (tab a c) (tab b c) (br (tab a c)) := fun hc => tab_zip (g := fun x y => besideT x y (br x)) ha hb e hd ht hc
  have sa : ∀ {c}, c ∈ a.dg → SqT' a.n (tab a c) := fun hc => tab_sq ha hc
  have sb : ∀ {c}, c ∈ a.dg → SqT' b.n (tab b c) := fun hc => tab_sq hb (e ▸ hc)
  have me : ∀ {c}, c ∈ (gph t).L → c ∈ a.dg := fun h => hd ▸ h
  exact {
    LA := hd.symm
    LB := by show b.dg = t.dg; rw [hd, e]
    n := hn
    eA := fun c p q hc hp hq => by
      show (ent (tab t c) p q).toNat = (ent (tab a c) p q).toNat
      rw [tz (me hc), bs_nn (sa (me hc)) hp hq]
    eB := fun c p q hc hp hq => by
      show (ent (tab t c) (a.n + p) (a.n + q)).toNat = (ent (tab b c) p q).toNat
      rw [tz (me hc), bs_ff (sa (me hc)) (sb (me hc)) hp]
    no := fun c p q hc hp hq => by
      show (ent (tab t c) (a.n + p) q).toNat = 0
      rw [tz (me hc), bs_fn (sa (me hc)) (sb (me hc)) hp hq]; rfl }
theorem added_sum {a b : Tal} (ha : a.Ok) (hb : b.Ok) (e : a.dg = b.dg) : Sum (gph a) (gph b) (gph (addedT a b)) where
  toBeh := beh_of ha hb e rfl added_n (br := fun _ => noBr a.n b.n) rfl
  no' := fun c p q hc hp hq => by
    show (ent (tab (addedT a b) c) p (a.n + q)).toNat = 0
    have ez : tab (addedT a b) c = besideT (tab a c) (tab b c) (noBr a.n b.n) := tab_zip (t' := addedT a b) ha hb e rfl (g := fun x y => besideT x y (noBr a.n b.n)) rfl hc
    rw [ez, bs_nf (tab_sq ha hc) hp, noBr_ent]; rfl
  sA := fun p hp => by
    show decide (0 < (a.start ++ b.start).getD p 0) = decide (0 < a.start.getD p 0)
    rw [getD_app hp]
  fA := fun p hp => by
    show decide (0 < (a.ends ++ b.ends).getD p 0) = decide (0 < a.ends.getD p 0)
    rw [getD_app (by rw [ha.ends]; exact hp)]
  sB := fun p hp => by
    show decide (0 < (a.start ++ b.start).getD (a.n + p) 0) = decide (0 < b.start.getD p 0)
    rw [getD_app2 (n := a.n) rfl]
  fB := fun p hp => by
    show decide (0 < (a.ends ++ b.ends).getD (a.n + p) 0) = decide (0 < b.ends.getD p 0)
    rw [getD_app2 ha.ends]
/-! ### products of rows -/
def dot (r s : Row) : Int := (List.zipWith (· * ·) r s).sum
theorem dot_pos : ∀ {r s : Row}, r.length = s.length → (∀ x ∈ r, 0 ≤ x) → (∀ x ∈ s, 0 ≤ x) → 0 ≤ dot r s ∧ (0 < dot r s ↔ ∃ i, i < r.length ∧ 0 < r.getD i 0 ∧ 0 < s.getD i 0)
  | [], s, _, _, _ => by simp [dot]
  | x :: r, [], h, _, _ => by simp at h
  | x :: r, y :: s, h, hr, hs => by
    obtain ⟨i1, i2⟩ := dot_pos (r := r) (s := s) (by simpa using h) (fun z hz => hr z (List.mem_cons_of_mem _ hz)) (fun z hz => hs z (List.mem_cons_of_mem _ hz))
    have hx := hr x List.mem_cons_self
    have hy := hs y List.mem_cons_self
    have e : dot (x :: r) (y :: s) = x * y + dot r s := by unfold dot; rw [List.zipWith_cons_cons, List.sum_cons]
    have hxy := Int.mul_nonneg hx hy
    rw [e]
    refine ⟨by omega, fun hp => ?_, ?_⟩
    · by_cases hz : 0 < x * y
      · refine ⟨0, by simp, ?_, ?_⟩
        · show 0 < x
          rcases Int.lt_or_eq_of_le hx with h | h
          · exact h
          · rw [← h] at hz; simp at hz
        · show 0 < y
          rcases Int.lt_or_eq_of_le hy with h | h
          · exact h
          · rw [← h] at hz; simp at hz
      · obtain ⟨i, a, b, c⟩ := i2.mp (by omega)
        exact ⟨i + 1, by simpa using a, by simpa using b, by simpa using c⟩
    · rintro ⟨i, a, b, c⟩
      cases i with
      | zero =>
        have := Int.mul_pos (show 0 < x from b) (show 0 < y from c)
        omega
      | succ i =>
        have := i2.mpr ⟨i, by simpa using a, by simpa using b, by simpa using c⟩
        omega
def colsOf (m : Tab) : Tab := (List.range m.length).map fun j => m.map fun r => r.getD j 0
def ledOn (row : Row) (m : Tab) : Row := (colsOf m).map (dot row)
def tabProd (a b : Tab) : Tab := a.map fun r => (colsOf b).map (dot r)
def still (n : Nat) : Tab := (List.range n).map fun i => (List.range n).map fun j => if j = i then 1 else 0
def timesCol (m : Tab) (col : Row) : Row := m.map fun r => dot r col
theorem cols_row {n : Nat} {m : Tab} (h : SqT' n m) {j : Nat} (hj : j < n) : (colsOf m).getD j [] = m.map fun r => r.getD j 0 := by
  unfold colsOf
  rw [List.getD_eq_getElem?_getD, List.getElem?_map, List.getElem?_range (by rw [h.1]; exact hj)]
  rfl
theorem col_get {n : Nat} {m : Tab} (h : SqT' n m) {i j : Nat} (hi : i < n) : (m.map fun r => r.getD j 0).getD i 0 = ent m i j := by
  obtain ⟨r, e1, e2, _⟩ := ent_row h hi
  unfold ent
  rw [List.getD_eq_getElem?_getD, List.getElem?_map, e1, e2]; rfl
theorem cols_ent {n : Nat} {m : Tab} (h : SqT' n m) {i j : Nat} (hi : i < n) (hj : j < n) : ent (colsOf m) i j = ent m j i := by
  show ((colsOf m).getD i []).getD j 0 = _
  rw [cols_row h hi, col_get h hj]
theorem cols_sq {n : Nat} {m : Tab} (h : SqT' n m) : SqT' n (colsOf m) :=
  ⟨by unfold colsOf; simp [h.1], fun r hr => by
    obtain ⟨j, _, rfl⟩ := List.mem_map.mp hr
    rw [List.length_map, h.1]⟩
theorem cols_nn {m : Tab} (h : NN m) : NN (colsOf m) := by
  intro r hr x hx
  obtain ⟨j, _, rfl⟩ := List.mem_map.mp hr
  obtain ⟨r', hr', rfl⟩ := List.mem_map.mp hx
  exact getD_nn (h r' hr')
theorem cols_bd {m : Tab} (h : ∀ r ∈ m, ∀ x ∈ r, x ≤ 1000) : ∀ r ∈ colsOf m, ∀ x ∈ r, x ≤ 1000 := by
  intro r hr x hx
  obtain ⟨j, _, rfl⟩ := List.mem_map.mp hr
  obtain ⟨r', hr', rfl⟩ := List.mem_map.mp hx
  rw [List.getD_eq_getElem?_getD]
  cases e : r'[j]? with
  | none => show (0 : Int) ≤ 1000; decide
  | some y => exact h r' hr' y (List.mem_of_getElem? e)
theorem led_len {r : Row} {n : Nat} {m : Tab} (h : SqT' n m) : (ledOn r m).length = n := by unfold ledOn; rw [List.length_map, (cols_sq h).1]
theorem led_get {r : Row} {n : Nat} {m : Tab} (h : SqT' n m) {j : Nat} (hj : j < n) : (ledOn r m).getD j 0 = dot r (m.map fun r => r.getD j 0) := by
  unfold ledOn
  have e : (colsOf m)[j]? = some (m.map fun r => r.getD j 0) := by
    unfold colsOf
    rw [List.getElem?_map, List.getElem?_range (by rw [h.1]; exact hj)]; rfl
  rw [List.getD_eq_getElem?_getD, List.getElem?_map, e]; rfl
theorem led_pos {r : Row} {n : Nat} {m : Tab} (h : SqT' n m) (hn : NN m) (hl : r.length = n) (hr : ∀ x ∈ r, 0 ≤ x) {j : Nat} (hj : j < n) : 0 ≤ (ledOn r m).getD j 0 ∧ (0 < (ledOn r m).getD j 0 ↔ ∃ i, i < n ∧ 0 < r.getD i 0 ∧ 0 < ent m i j) := by
  rw [led_get h hj]
  obtain ⟨a, b⟩ := dot_pos (r := r) (s := m.map fun r => r.getD j 0) (by rw [List.length_map, hl, h.1]) hr fun x hx => by
    obtain ⟨r', hr', rfl⟩ := List.mem_map.mp hx
    exact getD_nn (hn r' hr')
  refine ⟨a, b.trans ⟨fun ⟨i, h1, h2, h3⟩ => ⟨i, by omega, h2, by rw [col_get h (by omega)] at h3; exact h3⟩, fun ⟨i, h1, h2, h3⟩ => ⟨i, by omega, h2, by rw [col_get h h1]; exact h3⟩⟩⟩
theorem mem_getD {r : Row} {x : Int} (h : x ∈ r) : ∃ i, i < r.length ∧ r.getD i 0 = x := by
  obtain ⟨i, hi⟩ := List.mem_iff_getElem?.mp h
  exact ⟨i, (List.getElem?_eq_some_iff.mp hi).1, by rw [List.getD_eq_getElem?_getD, hi]; rfl⟩
theorem led_nn {r : Row} {n : Nat} {m : Tab} (h : SqT' n m) (hn : NN m) (hl : r.length = n) (hr : ∀ x ∈ r, 0 ≤ x) : ∀ x ∈ ledOn r m, 0 ≤ x := by
  intro x hx
  obtain ⟨i, hi, rfl⟩ := mem_getD hx
  rw [led_len h] at hi
  exact (led_pos h hn hl hr hi).1
/-! ### ahead -/
def rowT (t : Tal) (w : List Nat) : Row := w.foldl (fun r c => ledOn r (tab t c)) t.start
theorem rowT_snoc {t : Tal} {w : List Nat} {c : Nat} : rowT t (w ++ [c]) = ledOn (rowT t w) (tab t c) := by unfold rowT; rw [List.foldl_append]; rfl
theorem row_ok {t : Tal} (h : t.Ok) : ∀ {w : List Nat}, (∀ c ∈ w, c ∈ t.dg) → (rowT t w).length = t.n ∧ (∀ x ∈ rowT t w, 0 ≤ x) ∧ ∀ q, q < t.n → 0 < (rowT t w).getD q 0 → ∃ p, p < t.n ∧ (gph t).s p = true ∧ Path (gph t) p w q := by
  intro w
  induction hl : w.length generalizing w with
  | zero =>
    intro _
    have : w = [] := List.eq_nil_of_length_eq_zero hl
    subst this
    exact ⟨rfl, h.nnS, fun q hq hp => ⟨q, hq, by show decide _ = true; exact decide_eq_true hp, .nil hq⟩⟩
  | succ n ih =>
    intro hw
    have hv : w ≠ [] := fun z => by rw [z] at hl; cases hl
    obtain ⟨v, c, rfl⟩ : ∃ v c, w = v ++ [c] := ⟨w.dropLast, w.getLast hv, (List.dropLast_concat_getLast hv).symm⟩
    have hc : c ∈ t.dg := hw c (by simp)
    obtain ⟨i1, i2, i3⟩ := ih (w := v) (by simpa using hl) fun d hd => hw d (List.mem_append_left _ hd)
    have sq := tab_sq h hc
    have nn : NN (tab t c) := h.nn _ (tab_mem h hc)
    rw [rowT_snoc]
    refine ⟨led_len sq, led_nn sq nn i1 i2, fun q hq hp => ?_⟩
    obtain ⟨i, hi, a, b⟩ := (led_pos sq nn i1 i2 hq).2.mp hp
    obtain ⟨p, hp', hs, k⟩ := i3 i hi a
    exact ⟨p, hp', hs, k.snoc hc hq (gph_pos.mpr b)⟩
def aheadT (t : Tal) (w : List Nat) : Tal := { t with start := rowT t w }
theorem ahead_ok {t : Tal} (h : t.Ok) {w : List Nat} (hw : ∀ c ∈ w, c ∈ t.dg) : (aheadT t w).Ok := by
  obtain ⟨a, b, c⟩ := row_ok h hw
  have en : (aheadT t w).n = t.n := a
  exact ⟨by rw [en]; exact h.pos, by rw [en]; exact h.sml, by rw [en]; exact h.ends, fun m hm => by rw [en]; exact h.tabs m hm, h.len, h.dgs, h.nn, b, h.nnE, h.bd⟩
theorem ahead_sub {t : Tal} (h : t.Ok) {w : List Nat} (hw : ∀ c ∈ w, c ∈ t.dg) : Sub (gph t) (gph (aheadT t w)) := by
  obtain ⟨a, b, c⟩ := row_ok h hw
  exact ⟨rfl, a, rfl, fun q hq e => by
    obtain ⟨p, _, hs, k⟩ := c q hq (of_decide_eq_true e)
    exact ⟨p, hs, w, k⟩, fun q hq e => ⟨q, e, .refl hq⟩⟩
/-! ### behind -/
def tableT (t : Tal) (w : List Nat) : Tab := w.foldl (fun m c => tabProd m (tab t c)) (still t.n)
theorem tableT_snoc {t : Tal} {w : List Nat} {c : Nat} : tableT t (w ++ [c]) = tabProd (tableT t w) (tab t c) := by unfold tableT; rw [List.foldl_append]; rfl
theorem prod_row {a b : Tab} {n : Nat} (ha : SqT' n a) {i : Nat} (hi : i < n) : (tabProd a b).getD i [] = ledOn (a.getD i []) b := by
  obtain ⟨r, e1, e2, _⟩ := ent_row ha hi
  unfold tabProd ledOn
  rw [List.getD_eq_getElem?_getD, List.getElem?_map, e1, e2]; rfl
theorem table_ok {t : Tal} (h : t.Ok) : ∀ {w : List Nat}, (∀ c ∈ w, c ∈ t.dg) → SqT' t.n (tableT t w) ∧ NN (tableT t w) ∧ ∀ p q, p < t.n → q < t.n → 0 < ent (tableT t w) p q → Path (gph t) p w q := by
  intro w
  induction hl : w.length generalizing w with
  | zero =>
    intro _
    have : w = [] := List.eq_nil_of_length_eq_zero hl
    subst this
    have e : tableT t [] = still t.n := rfl
    rw [e]
    refine ⟨⟨by unfold still; simp, fun r hr => ?_⟩, fun r hr x hx => ?_, fun p q hp hq he => ?_⟩
    · obtain ⟨i, _, rfl⟩ := List.mem_map.mp hr
      simp
    · obtain ⟨i, _, rfl⟩ := List.mem_map.mp hr
      obtain ⟨j, _, rfl⟩ := List.mem_map.mp hx
      split <;> decide
    · have : q = p := by
        unfold ent still at he
        rw [show ((List.range t.n).map fun i => (List.range t.n).map fun j => if j = i then (1 : Int) else 0).getD p [] = (List.range t.n).map fun j => if j = p then (1 : Int) else 0 by rw [List.getD_eq_getElem?_getD, List.getElem?_map, List.getElem?_range hp]; rfl] at he
        have he : 0 < ((List.range t.n).map fun j => if j = p then (1 : Int) else 0).getD q 0 := he
        rw [List.getD_eq_getElem?_getD, List.getElem?_map, List.getElem?_range hq] at he
        have he : 0 < if q = p then (1 : Int) else 0 := he
        by_cases z : q = p
        · exact z
        · rw [if_neg z] at he; exact absurd he (by decide)
      subst this
      exact .nil hq
  | succ n ih =>
    intro hw
    have hv : w ≠ [] := fun z => by rw [z] at hl; cases hl
    obtain ⟨v, c, rfl⟩ : ∃ v c, w = v ++ [c] := ⟨w.dropLast, w.getLast hv, (List.dropLast_concat_getLast hv).symm⟩
    have hc : c ∈ t.dg := hw c (by simp)
    obtain ⟨i1, i2, i3⟩ := ih (w := v) (by simpa using hl) fun d hd => hw d (List.mem_append_left _ hd)
    have sq := tab_sq h hc
    have nn : NN (tab t c) := h.nn _ (tab_mem h hc)
    rw [tableT_snoc]
    refine ⟨⟨by unfold tabProd; rw [List.length_map]; exact i1.1, fun r hr => ?_⟩, fun r hr x hx => ?_, fun p q hp hq he => ?_⟩
    · obtain ⟨r', hr', rfl⟩ := List.mem_map.mp hr
      exact led_len (r := r') sq
    · obtain ⟨r', hr', rfl⟩ := List.mem_map.mp hr
      exact led_nn sq nn (i1.2 r' hr') (i2 r' hr') x hx
    · have he : 0 < ((tabProd (tableT t v) (tab t c)).getD p []).getD q 0 := he
      obtain ⟨r, e1, e2, e3⟩ := ent_row i1 hp
      rw [prod_row i1 hp, e2] at he
      obtain ⟨i, hi, a, b⟩ := (led_pos sq nn e3 (i2 r (List.mem_of_getElem? e1)) hq).2.mp he
      exact (i3 p i hp hi (by unfold ent; rw [e2]; exact a)).snoc hc hq (gph_pos.mpr b)
def behindT (t : Tal) (w : List Nat) : Tal := { t with ends := timesCol (tableT t w) t.ends }
theorem tc_get {m : Tab} {n : Nat} (h : SqT' n m) {col : Row} {p : Nat} (hp : p < n) : (timesCol m col).getD p 0 = dot (m.getD p []) col := by
  obtain ⟨r, e1, e2, _⟩ := ent_row h hp
  unfold timesCol
  rw [List.getD_eq_getElem?_getD, List.getElem?_map, e1, e2]; rfl
theorem tc_pos {m : Tab} {n : Nat} (h : SqT' n m) (hn : NN m) {col : Row} (hl : col.length = n) (hc : ∀ x ∈ col, 0 ≤ x) {p : Nat} (hp : p < n) : 0 ≤ (timesCol m col).getD p 0 ∧ (0 < (timesCol m col).getD p 0 ↔ ∃ q, q < n ∧ 0 < ent m p q ∧ 0 < col.getD q 0) := by
  rw [tc_get h hp]
  obtain ⟨r, e1, e2, e3⟩ := ent_row h hp
  unfold ent
  rw [e2]
  have := dot_pos (r := r) (s := col) (by omega) (hn r (List.mem_of_getElem? e1)) hc
  rw [e3] at this
  exact this
theorem tc_nn {m : Tab} {n : Nat} (h : SqT' n m) (hn : NN m) {col : Row} (hl : col.length = n) (hc : ∀ x ∈ col, 0 ≤ x) : ∀ x ∈ timesCol m col, 0 ≤ x := by
  intro x hx
  obtain ⟨i, hi, rfl⟩ := mem_getD hx
  refine (tc_pos h hn hl hc ?_).1
  unfold timesCol at hi
  rw [List.length_map, h.1] at hi
  exact hi
theorem behind_ok {t : Tal} (h : t.Ok) {w : List Nat} (hw : ∀ c ∈ w, c ∈ t.dg) : (behindT t w).Ok := by
  obtain ⟨a, b, c⟩ := table_ok h hw
  exact ⟨h.pos, h.sml, by show (timesCol _ _).length = _; unfold timesCol; rw [List.length_map]; exact a.1, h.tabs, h.len, h.dgs, h.nn, h.nnS, tc_nn a b h.ends h.nnE, h.bd⟩
theorem behind_sub {t : Tal} (h : t.Ok) {w : List Nat} (hw : ∀ c ∈ w, c ∈ t.dg) : Sub (gph t) (gph (behindT t w)) := by
  obtain ⟨a, b, c⟩ := table_ok h hw
  refine ⟨rfl, rfl, rfl, fun q hq e => ⟨q, e, .refl hq⟩, fun p hp e => ?_⟩
  obtain ⟨q, hq, h1, h2⟩ := (tc_pos a b h.ends h.nnE hp).2.mp (of_decide_eq_true e)
  exact ⟨q, by show decide _ = true; exact decide_eq_true h2, w, c p q hp hq h1⟩
/-! ### turned -/
def turnedT (t : Tal) : Tal where
  dg := t.dg
  start := t.ends
  tables := t.tables.map colsOf
  ends := t.start
theorem turned_ok {t : Tal} (h : t.Ok) : (turnedT t).Ok := by
  have en : (turnedT t).n = t.n := h.ends
  exact ⟨by rw [en]; exact h.pos, by rw [en]; exact h.sml, by rw [en]; rfl, fun m hm => by
    rw [en]
    obtain ⟨m', hm', rfl⟩ := List.mem_map.mp hm
    exact cols_sq (h.tabs m' hm'), by show (t.tables.map colsOf).length = _; rw [List.length_map]; exact h.len, h.dgs, fun m hm => by
    obtain ⟨m', hm', rfl⟩ := List.mem_map.mp hm
    exact cols_nn (h.nn m' hm'), h.nnE, h.nnS, fun m hm => by
    obtain ⟨m', hm', rfl⟩ := List.mem_map.mp hm
    exact cols_bd (h.bd m' hm')⟩
theorem turned_rv {t : Tal} (h : t.Ok) : Rv (gph t) (gph (turnedT t)) where
  L := rfl
  n := h.ends
  e := fun c p q hp hq => by
    show (ent (tab (turnedT t) c) p q).toNat = (ent (tab t c) q p).toNat
    by_cases hc : c ∈ t.dg
    · rw [tab_map h rfl (t' := turnedT t) (g := colsOf) rfl hc, cols_ent (tab_sq h hc) hp hq]
    · rw [tab_out hc, tab_out (t := turnedT t) hc, ent_nil, ent_nil]
  s := fun p hp => rfl
  f := fun p hp => rfl
/-! ### times -/
def timesT (k : Int) (t : Tal) : Tal := { t with ends := t.ends.map fun x => k * x }
theorem times_ok {k : Int} (hk : 0 ≤ k) {t : Tal} (h : t.Ok) : (timesT k t).Ok :=
  ⟨h.pos, h.sml, by show (t.ends.map _).length = _; rw [List.length_map]; exact h.ends, h.tabs, h.len, h.dgs, h.nn, h.nnS, fun x hx => by
    obtain ⟨y, hy, rfl⟩ := List.mem_map.mp hx
    exact Int.mul_nonneg hk (h.nnE y hy), h.bd⟩
theorem map_getD {k : Int} {r : Row} {p : Nat} : (r.map fun x => k * x).getD p 0 = k * r.getD p 0 := by
  rw [List.getD_eq_getElem?_getD, List.getElem?_map, List.getD_eq_getElem?_getD]
  cases r[p]? <;> simp
theorem times_gph {k : Int} (hk : 0 < k) {t : Tal} : gph (timesT k t) = gph t := by
  have : (gph (timesT k t)).f = (gph t).f := by
    funext p
    show decide (0 < (t.ends.map fun x => k * x).getD p 0) = decide (0 < t.ends.getD p 0)
    rw [map_getD]
    refine decide_eq_decide.mpr ⟨fun h => ?_, fun h => Int.mul_pos hk h⟩
    exact Int.pos_of_mul_pos_right h hk
  show Gph.mk _ _ _ _ _ = Gph.mk _ _ _ _ _
  congr 1
theorem times_zero {t : Tal} {p : Nat} : ¬ Useful (gph (timesT 0 t)) p := by
  rintro ⟨_, b, hb, _⟩
  have hb : decide (0 < (t.ends.map fun x => 0 * x).getD b 0) = true := hb
  rw [map_getD, Int.zero_mul] at hb
  simp at hb
end Tly
end
section
set_option linter.all false
set_option maxRecDepth 10000
/-! Met, multiplied; the kinds of what is made. -/
namespace Tly
open Gm
/-! ### met -/
def scaled (k : Int) (r : Row) : Row := r.map fun x => k * x
def bridgeT (a b : Tal) (near : Tab) : Tab := (timesCol near a.ends).map fun w => scaled w b.start
def metT (a b : Tal) : Tal where
  dg := a.dg
  start := a.start ++ scaled (dot a.start a.ends) b.start
  tables := List.zipWith (fun x y => besideT x y (bridgeT a b x)) a.tables b.tables
  ends := List.replicate a.n 0 ++ b.ends
theorem scaled_len {k : Int} {r : Row} : (scaled k r).length = r.length := List.length_map _
theorem scaled_nn {k : Int} {r : Row} (hk : 0 ≤ k) (h : ∀ x ∈ r, 0 ≤ x) : ∀ x ∈ scaled k r, 0 ≤ x := fun x hx => by
  obtain ⟨y, hy, rfl⟩ := List.mem_map.mp hx
  exact Int.mul_nonneg hk (h y hy)
theorem met_n {a b : Tal} : (metT a b).n = a.n + b.n := by show (a.start ++ scaled _ b.start).length = _; rw [List.length_append, scaled_len]; rfl
theorem mul_pos_iff {a b : Int} (ha : 0 ≤ a) (hb : 0 ≤ b) : 0 < a * b ↔ 0 < a ∧ 0 < b := by
  constructor
  · intro h
    refine ⟨?_, ?_⟩
    · rcases Int.lt_or_eq_of_le ha with k | k
      · exact k
      · rw [← k] at h; simp at h
    · rcases Int.lt_or_eq_of_le hb with k | k
      · exact k
      · rw [← k] at h; simp at h
  · exact fun ⟨h1, h2⟩ => Int.mul_pos h1 h2
theorem dot_le : ∀ {r s : Row} {x y : Int}, 0 ≤ x → 0 ≤ y → (∀ z ∈ r, 0 ≤ z ∧ z ≤ x) → (∀ z ∈ s, 0 ≤ z ∧ z ≤ y) → dot r s ≤ r.length * (x * y)
  | [], _, x, y, _, _, _, _ => by simp [dot]
  | a :: r, [], x, y, hx, hy, h, h2 => by
    have e : dot (a :: r) [] = 0 := rfl
    rw [e]
    exact Int.mul_nonneg (Int.natCast_nonneg _) (Int.mul_nonneg hx hy)
  | a :: r, b :: s, x, y, hx, hy, h, h2 => by
    have i := dot_le (r := r) (s := s) hx hy (fun z hz => h z (List.mem_cons_of_mem _ hz)) (fun z hz => h2 z (List.mem_cons_of_mem _ hz))
    have e : dot (a :: r) (b :: s) = a * b + dot r s := by unfold dot; rw [List.zipWith_cons_cons, List.sum_cons]
    obtain ⟨a1, a2⟩ := h a List.mem_cons_self
    obtain ⟨b1, b2⟩ := h2 b List.mem_cons_self
    have : a * b ≤ x * y := Int.mul_le_mul a2 b2 b1 hx
    rw [e, List.length_cons]
    have : (((r.length + 1 : Nat) : Int)) * (x * y) = r.length * (x * y) + x * y := by rw [Int.natCast_add, Int.add_mul]; simp
    omega
theorem met_ok {a b : Tal} (ha : a.Ok) (hb : b.Ok) (Ba : a.Base) (Bb : b.Base) (e : a.dg = b.dg) (hs : a.n + b.n ≤ 9) : (metT a b).Ok where
  pos := by rw [met_n]; have := ha.pos; omega
  sml := by rw [met_n]; exact hs
  ends := by rw [met_n]; show (List.replicate a.n 0 ++ b.ends).length = _; rw [List.length_append, List.length_replicate, hb.ends]
  tabs := fun m hm => by
    obtain ⟨x, hx, y, hy, rfl⟩ := zip_mem hm
    rw [met_n]
    refine bs_sq (ha.tabs x hx) (hb.tabs y hy) ?_ fun r hr => ?_
    · unfold bridgeT timesCol
      rw [List.length_map, List.length_map, (ha.tabs x hx).1]
    · obtain ⟨w, _, rfl⟩ := List.mem_map.mp hr
      rw [scaled_len]; rfl
  len := by show (List.zipWith _ _ _).length = a.dg.length; rw [List.length_zipWith, ha.len, hb.len, e, Nat.min_self]
  dgs := ha.dgs
  nn := fun m hm => by
    obtain ⟨x, hx, y, hy, rfl⟩ := zip_mem hm
    refine bs_pos (ha.nn x hx) (hb.nn y hy) fun r hr => ?_
    obtain ⟨w, hw, rfl⟩ := List.mem_map.mp hr
    exact scaled_nn (tc_nn (ha.tabs x hx) (ha.nn x hx) ha.ends ha.nnE w hw) hb.nnS
  nnS := fun x hx => (List.mem_append.mp hx).elim (ha.nnS x) (scaled_nn (dot_pos ha.ends.symm ha.nnS ha.nnE).1 hb.nnS x)
  nnE := fun x hx => (List.mem_append.mp hx).elim (fun h => by rw [(List.mem_replicate.mp h).2]; exact Int.le_refl 0) (hb.nnE x)
  bd := fun m hm => by
    obtain ⟨x, hx, y, hy, rfl⟩ := zip_mem hm
    refine bs_all (P := fun x => x ≤ 1000) (by decide) (ha.bd x hx) (hb.bd y hy) fun r hr z hz => ?_
    obtain ⟨w, hw, rfl⟩ := List.mem_map.mp hr
    obtain ⟨k, hk, rfl⟩ := List.mem_map.mp hz
    have w0 := tc_nn (ha.tabs x hx) (ha.nn x hx) ha.ends ha.nnE w hw
    obtain ⟨r, hr', rfl⟩ := List.mem_map.mp hw
    have lr := (ha.tabs x hx).2 r hr'
    have ln := Ba.n
    have w1 := dot_le (x := 2) (y := 3) (r := r) (s := a.ends) (by decide) (by decide) (fun z hz => ⟨ha.nn x hx r hr' z hz, Ba.t x hx r hr' z hz⟩) (fun z hz => ⟨ha.nnE z hz, Ba.e z hz⟩)
    rw [lr] at w1
    have k0 := hb.nnS k hk
    have k1 := Bb.s k hk
    have : dot r a.ends * k ≤ 18 * 2 := Int.mul_le_mul (by omega) k1 k0 (by decide)
    show dot r a.ends * k ≤ 1000
    omega
theorem bridge_ent {a b : Tal} (ha : a.Ok) {m : Tab} (hm : SqT' a.n m) {p q : Nat} (hp : p < a.n) : ent (bridgeT a b m) p q = (timesCol m a.ends).getD p 0 * b.start.getD q 0 := by
  have hl : (timesCol m a.ends).length = a.n := by unfold timesCol; rw [List.length_map]; exact hm.1
  have e1 : (timesCol m a.ends)[p]? = some ((timesCol m a.ends).getD p 0) := by
    rw [List.getD_eq_getElem?_getD, List.getElem?_eq_getElem (by omega)]; rfl
  have e2 : (bridgeT a b m).getD p [] = scaled ((timesCol m a.ends).getD p 0) b.start := by
    unfold bridgeT
    rw [List.getD_eq_getElem?_getD, List.getElem?_map, e1]; rfl
  unfold ent
  rw [e2]
  exact map_getD
theorem met_met {a b : Tal} (ha : a.Ok) (hb : b.Ok) (e : a.dg = b.dg) : Met (gph a) (gph b) (gph (metT a b)) where
  toBeh := beh_of ha hb e rfl met_n (br := bridgeT a b) rfl
  br := fun c p q hc hp hq => by
    have hc : c ∈ a.dg := hc
    have ez : tab (metT a b) c = besideT (tab a c) (tab b c) (bridgeT a b (tab a c)) := tab_zip (t' := metT a b) ha hb e rfl (g := fun x y => besideT x y (bridgeT a b x)) rfl hc
    have nn : NN (tab a c) := ha.nn _ (tab_mem ha hc)
    have tp := tc_pos (tab_sq ha hc) nn ha.ends ha.nnE (p := p) hp
    rw [gph_pos (t := metT a b)]
    show 0 < ent (tab (metT a b) c) p (a.n + q) ↔ _
    rw [ez, bs_nf (tab_sq ha hc) hp, bridge_ent ha (tab_sq ha hc) hp, mul_pos_iff tp.1 (getD_nn hb.nnS), tp.2]
    have hs : (gph b).s q = true ↔ 0 < b.start.getD q 0 := decide_eq_true_iff
    rw [hs]
    refine and_congr_left fun _ => ⟨fun ⟨r, h1, h2, h3⟩ => ⟨r, h1, gph_pos.mpr h2, decide_eq_true h3⟩, fun ⟨r, h1, h2, h3⟩ => ⟨r, h1, gph_pos.mp h2, of_decide_eq_true h3⟩⟩
  sA := fun p hp => by
    show decide (0 < (a.start ++ scaled _ b.start).getD p 0) = decide (0 < a.start.getD p 0)
    rw [getD_app hp]
  fA := fun p hp => by
    show decide (0 < (List.replicate a.n 0 ++ b.ends).getD p 0) = false
    rw [getD_app (by rw [List.length_replicate]; exact hp), getD_rep]; rfl
  sB := fun p hp => by
    have hs : (gph (metT a b)).s ((gph a).n + p) = true ↔ 0 < (a.start ++ scaled (dot a.start a.ends) b.start).getD (a.n + p) 0 := decide_eq_true_iff
    have dp := dot_pos ha.ends.symm ha.nnS ha.nnE
    rw [hs, getD_app2 (n := a.n) rfl]
    have : (scaled (dot a.start a.ends) b.start).getD p 0 = dot a.start a.ends * b.start.getD p 0 := map_getD
    rw [this, mul_pos_iff dp.1 (getD_nn hb.nnS), dp.2]
    have hs : (gph b).s p = true ↔ 0 < b.start.getD p 0 := decide_eq_true_iff
    rw [hs]
    refine and_congr_left fun _ => ⟨fun ⟨r, h1, h2, h3⟩ => ⟨r, h1, decide_eq_true h2, decide_eq_true h3⟩, fun ⟨r, h1, h2, h3⟩ => ⟨r, h1, of_decide_eq_true h2, of_decide_eq_true h3⟩⟩
  fB := fun p hp => by
    show decide (0 < (List.replicate a.n 0 ++ b.ends).getD (a.n + p) 0) = decide (0 < b.ends.getD p 0)
    rw [getD_app2 (by simp)]
/-! ### multiplied -/
def rowP (r s : Row) : Row := r.flatMap fun x => s.map fun y => x * y
def tabP (m k : Tab) : Tab := m.flatMap fun r => k.map fun s => rowP r s
def mulT (a b : Tal) : Tal where
  dg := a.dg
  start := rowP a.start b.start
  tables := List.zipWith tabP a.tables b.tables
  ends := rowP a.ends b.ends
theorem flat_at {α β : Type} {f : α → List β} {n : Nat} : ∀ {xs : List α} {i j : Nat} {x : α}, (∀ x ∈ xs, (f x).length = n) → xs[i]? = some x → j < n → (xs.flatMap f)[i * n + j]? = (f x)[j]?
  | [], _, _, _, _, h, _ => by simp at h
  | y :: xs, 0, j, x, hl, h, hj => by
    have : y = x := by simpa using h
    subst this
    rw [List.flatMap_cons, Nat.zero_mul, Nat.zero_add, List.getElem?_append_left (by rw [hl y (by simp)]; exact hj)]
  | y :: xs, i + 1, j, x, hl, h, hj => by
    have e : (i + 1) * n + j = n + (i * n + j) := by rw [Nat.succ_mul]; omega
    rw [List.flatMap_cons, e, List.getElem?_append_right (by rw [hl y (by simp)]; omega), hl y (by simp), Nat.add_sub_cancel_left]
    exact flat_at (fun z hz => hl z (List.mem_cons_of_mem _ hz)) (by simpa using h) hj
theorem flat_len {α β : Type} {f : α → List β} {n : Nat} : ∀ {xs : List α}, (∀ x ∈ xs, (f x).length = n) → (xs.flatMap f).length = xs.length * n
  | [], _ => by simp
  | y :: xs, hl => by
    rw [List.flatMap_cons, List.length_append, hl y (by simp), flat_len (fun z hz => hl z (List.mem_cons_of_mem _ hz)), List.length_cons, Nat.succ_mul, Nat.add_comm]
theorem rowP_len {r s : Row} : (rowP r s).length = r.length * s.length := flat_len fun _ _ => List.length_map _
theorem rowP_nn {r s : Row} (hr : ∀ x ∈ r, 0 ≤ x) (hs : ∀ x ∈ s, 0 ≤ x) : ∀ x ∈ rowP r s, 0 ≤ x := fun x hx => by
  obtain ⟨y, hy, h⟩ := List.mem_flatMap.mp hx
  obtain ⟨z, hz, rfl⟩ := List.mem_map.mp h
  exact Int.mul_nonneg (hr y hy) (hs z hz)
theorem row_get {r : Row} {i : Nat} (h : i < r.length) : r[i]? = some (r.getD i 0) := by
  rw [List.getD_eq_getElem?_getD, List.getElem?_eq_getElem h]; rfl
theorem rowP_get {r s : Row} {i j : Nat} (hi : i < r.length) (hj : j < s.length) : (rowP r s).getD (i * s.length + j) 0 = r.getD i 0 * s.getD j 0 := by
  have := flat_at (f := fun x => s.map fun y => x * y) (n := s.length) (fun _ _ => List.length_map _) (row_get hi) hj
  unfold rowP
  rw [List.getD_eq_getElem?_getD, this, List.getElem?_map, row_get hj]; rfl
theorem tabP_sq {n k : Nat} {a b : Tab} (ha : SqT' n a) (hb : SqT' k b) : SqT' (n * k) (tabP a b) := by
  refine ⟨?_, fun r hr => ?_⟩
  · unfold tabP
    rw [flat_len (n := k) fun _ _ => by rw [List.length_map]; exact hb.1, ha.1]
  · obtain ⟨x, hx, h⟩ := List.mem_flatMap.mp hr
    obtain ⟨y, hy, rfl⟩ := List.mem_map.mp h
    rw [rowP_len, ha.2 x hx, hb.2 y hy]
theorem tabP_nn {a b : Tab} (ha : NN a) (hb : NN b) : NN (tabP a b) := fun r hr => by
  obtain ⟨x, hx, h⟩ := List.mem_flatMap.mp hr
  obtain ⟨y, hy, rfl⟩ := List.mem_map.mp h
  exact rowP_nn (ha x hx) (hb y hy)
theorem tabP_ent {n k : Nat} {a b : Tab} (ha : SqT' n a) (hb : SqT' k b) {i j i' j' : Nat} (hi : i < n) (hj : j < k) (hi' : i' < n) (hj' : j' < k) : ent (tabP a b) (i * k + j) (i' * k + j') = ent a i i' * ent b j j' := by
  obtain ⟨r, e1, e2, e3⟩ := ent_row ha hi
  obtain ⟨s, f1, f2, f3⟩ := ent_row hb hj
  have := flat_at (f := fun r => b.map fun s => rowP r s) (n := k) (fun _ _ => by rw [List.length_map]; exact hb.1) e1 hj
  have : (tabP a b).getD (i * k + j) [] = rowP r s := by
    unfold tabP
    rw [List.getD_eq_getElem?_getD, this, List.getElem?_map, f1]; rfl
  unfold ent
  rw [this, e2, f2]
  have := rowP_get (r := r) (s := s) (i := i') (j := j') (by omega) (by omega)
  rw [f3] at this
  exact this
theorem mul_n {a b : Tal} : (mulT a b).n = a.n * b.n := rowP_len
theorem mul_ok {a b : Tal} (ha : a.Ok) (hb : b.Ok) (Ba : a.Base) (Bb : b.Base) (e : a.dg = b.dg) (hs : a.n * b.n ≤ 9) : (mulT a b).Ok where
  pos := by rw [mul_n]; exact Nat.mul_pos ha.pos hb.pos
  sml := by rw [mul_n]; exact hs
  ends := by rw [mul_n]; show (rowP a.ends b.ends).length = _; rw [rowP_len, ha.ends, hb.ends]
  tabs := fun m hm => by
    obtain ⟨x, hx, y, hy, rfl⟩ := zip_mem hm
    rw [mul_n]
    exact tabP_sq (ha.tabs x hx) (hb.tabs y hy)
  len := by show (List.zipWith _ _ _).length = a.dg.length; rw [List.length_zipWith, ha.len, hb.len, e, Nat.min_self]
  dgs := ha.dgs
  nn := fun m hm => by
    obtain ⟨x, hx, y, hy, rfl⟩ := zip_mem hm
    exact tabP_nn (ha.nn x hx) (hb.nn y hy)
  nnS := rowP_nn ha.nnS hb.nnS
  nnE := rowP_nn ha.nnE hb.nnE
  bd := fun m hm r hr z hz => by
    obtain ⟨x, hx, y, hy, rfl⟩ := zip_mem hm
    obtain ⟨u, hu, h⟩ := List.mem_flatMap.mp hr
    obtain ⟨v, hv, rfl⟩ := List.mem_map.mp h
    obtain ⟨p, hp, h⟩ := List.mem_flatMap.mp hz
    obtain ⟨q, hq, rfl⟩ := List.mem_map.mp h
    have : p * q ≤ 2 * 2 := Int.mul_le_mul (Ba.t x hx u hu p hp) (Bb.t y hy v hv q hq) (hb.nn y hy v hv q hq) (by decide)
    omega
theorem dm {r k : Nat} : r / k * k + r % k = r := by rw [Nat.mul_comm]; exact Nat.div_add_mod r k
theorem mul_prod {a b : Tal} (ha : a.Ok) (hb : b.Ok) (e : a.dg = b.dg) : Prod (gph a) (gph b) (gph (mulT a b)) (fun r => r / b.n) (fun r => r % b.n) := by
  have lA : ∀ {r}, r < (mulT a b).n → r / b.n < a.n := fun h => by
    rw [mul_n] at h
    exact Nat.div_lt_of_lt_mul (by rw [Nat.mul_comm]; exact h)
  have lB : ∀ {r}, r < (mulT a b).n → r % b.n < b.n := fun h => Nat.mod_lt _ hb.pos
  exact {
    LA := rfl
    LB := e.symm
    lA := fun r h => lA h
    lB := fun r h => lB h
    inj := fun r r' _ _ h1 h2 => by
      have h1 : r / b.n = r' / b.n := h1
      have h2 : r % b.n = r' % b.n := h2
      rw [← dm (r := r) (k := b.n), ← dm (r := r') (k := b.n), h1, h2]
    sur := fun p q hp hq => by
      have hq : q < b.n := hq
      have hp : p < a.n := hp
      refine ⟨p * b.n + q, ?_, ?_, ?_⟩
      · show p * b.n + q < (mulT a b).n
        rw [mul_n]
        have : (p + 1) * b.n ≤ a.n * b.n := Nat.mul_le_mul_right _ hp
        rw [Nat.succ_mul] at this
        omega
      · show (p * b.n + q) / b.n = p
        rw [Nat.mul_comm, Nat.mul_add_div hb.pos, Nat.div_eq_of_lt hq, Nat.add_zero]
      · show (p * b.n + q) % b.n = q
        rw [Nat.mul_comm, Nat.mul_add_mod, Nat.mod_eq_of_lt hq]
    e := fun c r r' hc hr hr' => by
      have hc : c ∈ a.dg := hc
      have ez : tab (mulT a b) c = tabP (tab a c) (tab b c) := tab_zip (t' := mulT a b) ha hb e rfl (g := tabP) rfl hc
      show (ent (tab (mulT a b) c) r r').toNat = (ent (tab a c) (r / b.n) (r' / b.n)).toNat * (ent (tab b c) (r % b.n) (r' % b.n)).toNat
      have := tabP_ent (tab_sq ha hc) (tab_sq hb (e ▸ hc)) (lA hr) (lB hr) (lA hr') (lB hr')
      rw [dm, dm] at this
      rw [ez, this]
      exact Int.toNat_mul (ent_nn ha hc (lA hr) (lA hr')) (ent_nn hb (e ▸ hc) (lB hr) (lB hr'))
    s := fun r hr => by
      have := rowP_get (r := a.start) (s := b.start) (lA hr) (lB hr)
      have eb : b.start.length = b.n := rfl
      rw [eb, dm] at this
      show decide (0 < (rowP a.start b.start).getD r 0) = (decide (0 < a.start.getD (r / b.n) 0) && decide (0 < b.start.getD (r % b.n) 0))
      rw [this, ← Bool.decide_and]
      exact decide_eq_decide.mpr (mul_pos_iff (getD_nn ha.nnS) (getD_nn hb.nnS))
    ff := fun r hr => by
      have := rowP_get (r := a.ends) (s := b.ends) (i := r / b.n) (j := r % b.n) (by rw [ha.ends]; exact lA hr) (by rw [hb.ends]; exact lB hr)
      rw [hb.ends, dm] at this
      show decide (0 < (rowP a.ends b.ends).getD r 0) = (decide (0 < a.ends.getD (r / b.n) 0) && decide (0 < b.ends.getD (r % b.n) 0))
      rw [this, ← Bool.decide_and]
      exact decide_eq_decide.mpr (mul_pos_iff (getD_nn ha.nnE) (getD_nn hb.nnE)) }
/-! ### the kinds -/
theorem kind_added {a b : Tal} (ha : a.Ok) (hb : b.Ok) (e : a.dg = b.dg) (hs : a.n + b.n ≤ 9) : kind (addedT a b) = if min (kind a) (kind b) < 0 then -1 else max (kind a) (kind b) :=
  (added_sum ha hb e).kind (kind_is ha) (kind_is hb) (kind_is (added_ok ha hb e hs))
theorem kind_turned {a : Tal} (ha : a.Ok) : kind (turnedT a) = kind a := (kind_is (turned_ok ha)).uniq ((turned_rv ha).kind (kind_is ha))
theorem kind_times {k : Int} (hk : 0 < k) {a : Tal} (ha : a.Ok) : kind (timesT k a) = kind a := by
  have := kind_is (times_ok (Int.le_of_lt hk) ha)
  rw [times_gph hk] at this
  exact this.uniq (kind_is ha)
theorem kind_zero {a : Tal} (ha : a.Ok) : kind (timesT 0 a) = 0 := kind_none (fun p => times_zero) (kind_is (times_ok (Int.le_refl 0) ha))
theorem kind_twice {a : Tal} (ha : a.Ok) (Ba : a.Base) (hs : a.n * a.n ≤ 9) : kind (mulT a a) = if kind a < 0 then -1 else 2 * kind a :=
  (mul_prod ha ha rfl).kindD (kind_is ha) (kind_is (mul_ok ha ha Ba Ba rfl hs))
theorem kind_mul {a b : Tal} (ha : a.Ok) (hb : b.Ok) (Ba : a.Base) (Bb : b.Base) (e : a.dg = b.dg) (hs : a.n * b.n ≤ 9) (h : 0 ≤ min (kind a) (kind b)) : 0 ≤ kind (mulT a b) ∧ kind (mulT a b) ≤ kind a + kind b :=
  (mul_prod ha hb e).kind (kind_is ha) (kind_is hb) (kind_is (mul_ok ha hb Ba Bb e hs)) h
theorem useful_ne {t : Tal} (h : t.Ok) : useful t ≠ [] ↔ ∃ p, Useful (gph t) p := by
  constructor
  · intro n
    obtain ⟨p, hp⟩ := List.exists_mem_of_ne_nil _ n
    exact ⟨p, (mem_useful h).mp hp⟩
  · rintro ⟨p, u⟩ e
    have := (mem_useful h).mpr u
    rw [e] at this
    cases this
theorem kind_met {a b : Tal} (ha : a.Ok) (hb : b.Ok) (Ba : a.Base) (Bb : b.Base) (e : a.dg = b.dg) (hs : a.n + b.n ≤ 9) :
    (kind (metT a b) < 0 ↔ (kind a < 0 ∧ useful b ≠ []) ∨ (kind b < 0 ∧ useful a ≠ [])) ∧ (0 ≤ kind (metT a b) → (useful b ≠ [] → kind a ≤ kind (metT a b)) ∧ (useful a ≠ [] → kind b ≤ kind (metT a b)) ∧ kind (metT a b) ≤ max 0 (kind a) + max 0 (kind b) + 1) := by
  rw [useful_ne ha, useful_ne hb]
  exact (met_met ha hb e).kind (kind_is ha) (kind_is hb) (kind_is (met_ok ha hb Ba Bb e hs))
theorem kind_ahead {t : Tal} (h : t.Ok) {w : List Nat} (hw : ∀ c ∈ w, c ∈ t.dg) (hk : 0 ≤ kind t) : 0 ≤ kind (aheadT t w) ∧ kind (aheadT t w) ≤ kind t := (ahead_sub h hw).kind (kind_is h) (kind_is (ahead_ok h hw)) hk
theorem kind_behind {t : Tal} (h : t.Ok) {w : List Nat} (hw : ∀ c ∈ w, c ∈ t.dg) (hk : 0 ≤ kind t) : 0 ≤ kind (behindT t w) ∧ kind (behindT t w) ≤ kind t := (behind_sub h hw).kind (kind_is h) (kind_is (behind_ok h hw)) hk
end Tly
end
section
set_option Elab.async false
set_option linter.all false
set_option maxRecDepth 100000
set_option maxHeartbeats 2000000
/-! The data layer: values told as data, the heap hidden. -/
namespace Dl
open PySem PySem.Spec PyProof.Rows L2

inductive D where
  | non | bl (b : Bool) | int (i : Int) | str (x : Str)
  | tup (ds : List D) | lst (ds : List D)
  | dk (ks : List Key) (ds : List D)
  | ins (ds : List D)

def fieldNames : List Str := ["digits", "start", "tables", "ends", "table_by_digit"]

mutual
/-- v is the datum d in the heap H -/
def Rep (T : Addr) (H : Hp) : D → V → Prop
  | .non, v => v = .non
  | .bl b, v => v = .bl b
  | .int i, v => v = .int i
  | .str x, v => v = .str x
  | .tup ds, v => ∃ a vs, v = .ref a ∧ H a = some (.tup vs) ∧ Reps T H ds vs
  | .lst ds, v => ∃ a vs, v = .ref a ∧ H a = some (.lst vs) ∧ Reps T H ds vs
  | .dk ks ds, v => ∃ a vs, v = .ref a ∧ H a = some (.dK (ks.zip vs)) ∧ ks.length = ds.length ∧ Reps T H ds vs
  | .ins ds, v => ∃ a dx vs, v = .ref a ∧ H a = some (.ins T dx (fieldNames.zip vs)) ∧ ds.length = 5 ∧ Reps T H ds vs
def Reps (T : Addr) (H : Hp) : List D → List V → Prop
  | [], vs => vs = []
  | d :: ds, vs => ∃ v r, vs = v :: r ∧ Rep T H d v ∧ Reps T H ds r
end

section
variable {T : Addr} {H H' : Hp}
mutual
theorem Rep.mono (e : Same H H') : ∀ (d : D) (v : V), Rep T H d v → Rep T H' d v
  | .non, _, h => h
  | .bl _, _, h => h
  | .int _, _, h => h
  | .str _, _, h => h
  | .tup ds, v, h => by
    unfold Rep at h ⊢
    obtain ⟨a, vs, e1, e2, r⟩ := h
    exact ⟨a, vs, e1, e _ _ e2, Reps.mono e ds vs r⟩
  | .lst ds, v, h => by
    unfold Rep at h ⊢
    obtain ⟨a, vs, e1, e2, r⟩ := h
    exact ⟨a, vs, e1, e _ _ e2, Reps.mono e ds vs r⟩
  | .dk ks ds, v, h => by
    unfold Rep at h ⊢
    obtain ⟨a, vs, e1, e2, l, r⟩ := h
    exact ⟨a, vs, e1, e _ _ e2, l, Reps.mono e ds vs r⟩
  | .ins ds, v, h => by
    unfold Rep at h ⊢
    obtain ⟨a, dx, vs, e1, e2, l, r⟩ := h
    exact ⟨a, dx, vs, e1, e _ _ e2, l, Reps.mono e ds vs r⟩
theorem Reps.mono (e : Same H H') : ∀ (ds : List D) (vs : List V), Reps T H ds vs → Reps T H' ds vs
  | [], _, h => by
    unfold Reps at h ⊢
    exact h
  | d :: ds, _, h => by
    unfold Reps at h ⊢
    obtain ⟨v, r, e1, e2, e3⟩ := h
    exact ⟨v, r, e1, Rep.mono e d v e2, Reps.mono e ds r e3⟩
end
theorem rep_non {v : V} : Rep T H .non v ↔ v = .non := by unfold Rep; exact Iff.rfl
theorem rep_bl {b : Bool} {v : V} : Rep T H (.bl b) v ↔ v = .bl b := by unfold Rep; exact Iff.rfl
theorem rep_int {b : Int} {v : V} : Rep T H (.int b) v ↔ v = .int b := by unfold Rep; exact Iff.rfl
theorem rep_str {b : Str} {v : V} : Rep T H (.str b) v ↔ v = .str b := by unfold Rep; exact Iff.rfl
theorem rep_tup {ds : List D} {v : V} : Rep T H (.tup ds) v ↔ ∃ a vs, v = .ref a ∧ H a = some (.tup vs) ∧ Reps T H ds vs := by
  constructor
  · intro h; unfold Rep at h; exact h
  · intro h; unfold Rep; exact h
theorem rep_lst {ds : List D} {v : V} : Rep T H (.lst ds) v ↔ ∃ a vs, v = .ref a ∧ H a = some (.lst vs) ∧ Reps T H ds vs := by
  constructor
  · intro h; unfold Rep at h; exact h
  · intro h; unfold Rep; exact h
theorem rep_dk {ks : List Key} {ds : List D} {v : V} : Rep T H (.dk ks ds) v ↔ ∃ a vs, v = .ref a ∧ H a = some (.dK (ks.zip vs)) ∧ ks.length = ds.length ∧ Reps T H ds vs := by
  constructor
  · intro h; unfold Rep at h; exact h
  · intro h; unfold Rep; exact h
theorem rep_ins {ds : List D} {v : V} : Rep T H (.ins ds) v ↔ ∃ a dx vs, v = .ref a ∧ H a = some (.ins T dx (fieldNames.zip vs)) ∧ ds.length = 5 ∧ Reps T H ds vs := by
  constructor
  · intro h; unfold Rep at h; exact h
  · intro h; unfold Rep; exact h
theorem reps_nil : Reps T H [] [] := by unfold Reps; rfl
theorem reps_cons {d : D} {ds : List D} {v : V} {vs : List V} (h : Rep T H d v) (r : Reps T H ds vs) : Reps T H (d :: ds) (v :: vs) := by
  unfold Reps; exact ⟨v, vs, rfl, h, r⟩
theorem Reps.nil_iff {vs : List V} (h : Reps T H [] vs) : vs = [] := by unfold Reps at h; exact h
theorem Reps.cons_iff {d : D} {ds : List D} {vs : List V} (h : Reps T H (d :: ds) vs) : ∃ v r, vs = v :: r ∧ Rep T H d v ∧ Reps T H ds r := by unfold Reps at h; exact h
theorem Reps.length : ∀ {ds : List D} {vs : List V}, Reps T H ds vs → vs.length = ds.length
  | [], vs, h => by rw [h.nil_iff]; rfl
  | d :: ds, vs, h => by
    obtain ⟨v, r, rfl, _, h2⟩ := h.cons_iff
    rw [List.length_cons, List.length_cons, Reps.length h2]
theorem Reps.get : ∀ {ds : List D} {vs : List V} {i : Nat} {d : D}, Reps T H ds vs → ds[i]? = some d → ∃ v, vs[i]? = some v ∧ Rep T H d v
  | [], _, _, _, _, e => by simp at e
  | d :: ds, vs, 0, x, h, e => by
    obtain ⟨v, r, rfl, h1, h2⟩ := h.cons_iff
    simp at e; subst e
    exact ⟨v, by simp, h1⟩
  | d :: ds, vs, i + 1, x, h, e => by
    obtain ⟨v, r, rfl, h1, h2⟩ := h.cons_iff
    obtain ⟨u, e1, e2⟩ := Reps.get (i := i) h2 (by simpa using e)
    exact ⟨u, by simpa using e1, e2⟩
theorem Reps.get' : ∀ {ds : List D} {vs : List V} {i : Nat} {v : V}, Reps T H ds vs → vs[i]? = some v → ∃ d, ds[i]? = some d ∧ Rep T H d v := fun {ds vs i v} h e => by
  have l := h.length
  have hi : i < vs.length := (List.getElem?_eq_some_iff.mp e).1
  have e2 : ds[i]? = some ds[i] := List.getElem?_eq_getElem (by omega)
  obtain ⟨u, e3, r⟩ := h.get e2
  rw [e] at e3; cases e3
  exact ⟨_, e2, r⟩
theorem Reps.append : ∀ {ds es : List D} {vs us : List V}, Reps T H ds vs → Reps T H es us → Reps T H (ds ++ es) (vs ++ us)
  | [], _, _, _, h, k => by rw [h.nil_iff]; exact k
  | d :: ds, _, _, _, h, k => by
    obtain ⟨v, r, rfl, h1, h2⟩ := h.cons_iff
    exact reps_cons h1 (Reps.append h2 k)
theorem Reps.set {d : D} {v : V} (hv : Rep T H d v) : ∀ {ds : List D} {vs : List V} (i : Nat), Reps T H ds vs → Reps T H (ds.set i d) (vs.set i v)
  | [], _, _, h => by rw [h.nil_iff]; exact reps_nil
  | _ :: ds, _, 0, h => by
    obtain ⟨_, r, rfl, h1, h2⟩ := h.cons_iff
    exact reps_cons hv h2
  | _ :: ds, _, i + 1, h => by
    obtain ⟨_, r, rfl, h1, h2⟩ := h.cons_iff
    exact reps_cons h1 (Reps.set hv i h2)
theorem Reps.take : ∀ {ds : List D} {vs : List V} (n : Nat), Reps T H ds vs → Reps T H (ds.take n) (vs.take n)
  | ds, vs, 0, h => reps_nil
  | [], _, _ + 1, h => by rw [h.nil_iff]; exact reps_nil
  | _ :: ds, _, n + 1, h => by
    obtain ⟨_, r, rfl, h1, h2⟩ := h.cons_iff
    exact reps_cons h1 (Reps.take n h2)
theorem Reps.drop : ∀ {ds : List D} {vs : List V} (n : Nat), Reps T H ds vs → Reps T H (ds.drop n) (vs.drop n)
  | ds, vs, 0, h => h
  | [], _, _ + 1, h => by rw [h.nil_iff]; exact reps_nil
  | _ :: ds, _, n + 1, h => by
    obtain ⟨_, r, rfl, h1, h2⟩ := h.cons_iff
    exact Reps.drop n h2
theorem Reps.reverse {ds : List D} {vs : List V} (h : Reps T H ds vs) : Reps T H ds.reverse vs.reverse := by
  induction ds generalizing vs with
  | nil => rw [h.nil_iff]; exact reps_nil
  | cons d ds ih =>
    obtain ⟨v, r, rfl, h1, h2⟩ := h.cons_iff
    rw [List.reverse_cons, List.reverse_cons]
    exact (ih h2).append (reps_cons h1 reps_nil)
theorem Reps.replicate {d : D} {v : V} (h : Rep T H d v) : ∀ n : Nat, Reps T H (List.replicate n d) (List.replicate n v)
  | 0 => reps_nil
  | n + 1 => by rw [List.replicate_succ, List.replicate_succ]; exact reps_cons h (Reps.replicate h n)
theorem Reps.ints : ∀ {ns : List Int} {vs : List V}, Reps T H (ns.map .int) vs → vs = ns.map V.int
  | [], vs, h => h.nil_iff
  | n :: ns, vs, h => by
    obtain ⟨v, r, rfl, h1, h2⟩ := Reps.cons_iff (show Reps T H (.int n :: ns.map .int) vs from h)
    rw [rep_int.mp h1, Reps.ints h2]; rfl
theorem reps_ints : ∀ {ns : List Int}, Reps T H (ns.map .int) (ns.map V.int)
  | [] => reps_nil
  | n :: ns => reps_cons (rep_int.mpr rfl) reps_ints
theorem Reps.bls : ∀ {ns : List Bool} {vs : List V}, Reps T H (ns.map .bl) vs → vs = ns.map V.bl
  | [], vs, h => h.nil_iff
  | n :: ns, vs, h => by
    obtain ⟨v, r, rfl, h1, h2⟩ := Reps.cons_iff (show Reps T H (.bl n :: ns.map .bl) vs from h)
    rw [rep_bl.mp h1, Reps.bls h2]; rfl
theorem Reps.one {d : D} {vs : List V} (h : Reps T H [d] vs) : ∃ v, vs = [v] ∧ Rep T H d v := by
  obtain ⟨v, r, rfl, h1, h2⟩ := h.cons_iff
  rw [h2.nil_iff]; exact ⟨v, rfl, h1⟩
theorem Reps.two {d e : D} {vs : List V} (h : Reps T H [d, e] vs) : ∃ v u, vs = [v, u] ∧ Rep T H d v ∧ Rep T H e u := by
  obtain ⟨v, r, rfl, h1, h2⟩ := h.cons_iff
  obtain ⟨u, rfl, h3⟩ := h2.one
  exact ⟨v, u, rfl, h1, h3⟩
end

/-! ### heaps -/
theorem same_new {H : Hp} {p : Addr} {o : HO} (h : H p = none) : Same H (upd H p o) := fun b x e => by
  rw [upd_ne (ne_of_none e h)]; exact e
theorem same_mut {H H' : Hp} {p : Addr} {o : HO} (e : Same H H') (h : H p = none) : Same H (upd H' p o) := fun b x hb => by
  rw [upd_ne (ne_of_none hb h)]; exact e b x hb
/-- what is new in H0' stood nowhere in H -/
def New (H0 H0' H : Hp) : Prop := ∀ a o, H0' a = some o → H0 a = some o ∨ H a = none
theorem New.refl {H0 H : Hp} : New H0 H0 H := fun a o h => .inl h
theorem New.trans {H0 H1 H2 H H' : Hp} (a : New H0 H1 H) (b : New H1 H2 H') (s : Same H H') : New H0 H2 H := fun x o h => by
  rcases b x o h with h | h
  · exact a x o h
  · exact .inr (s.free h)
theorem new_upd {H0 H : Hp} {p : Addr} {o : HO} (h : H p = none) : New H0 (upd H0 p o) H := fun a x e => by
  by_cases q : a = p
  · subst q; exact .inr h
  · rw [upd_ne q] at e; exact .inl e
theorem same_both {H0 H : Hp} {p : Addr} {o : HO} (e : Same H0 H) : Same (upd H0 p o) (upd H p o) := fun b x h => by
  by_cases q : b = p
  · subst q; rw [upd_same] at h ⊢; exact h
  · rw [upd_ne q] at h ⊢; exact e b x h

/-! ### slots as data -/
inductive LV where
  | un | d (x : D) | L (xs : List D) | M (ks : List Key) (xs : List D) | T (kvs : List (List Int × D)) | N (x : Addr) (fs : List D) | K (d c : Addr) (n : Nat)

/-- what is fixed in a def's activation: the class Tally, the heap at the entry, the part of it that is data -/
structure Fm where
  T : Addr
  P : Program
  w : World
  B : Hp
  Z : Hp

/-- a tuple of ints and bools as a key -/
def keyV : List Int → List V → Prop
  | [], vs => vs = []
  | k :: ks, vs => ∃ v r, vs = v :: r ∧ (v = .int k ∨ ∃ b, v = .bl b ∧ k = if b then 1 else 0) ∧ keyV ks r
def nk (k : List Int) : NestedKey := .tup (k.map .num)
abbrev Ent := NestedKey × Addr × Value
def dictAt (P : Program) (w : World) (a : Addr) (ents : List Ent) : Heap → Prop := fun h =>
  (a == sysModules) = false ∧ ents.length ≤ sizeLine ∧ ∃ o es ep, h.get? a = some o ∧ o.ExactDict ∧ o.data = .dict es ep ∧ es.toList = ents.map (entryOfKey (nestedKind P w)) ∧ (ents.map (·.1)).Nodup
inductive Ents (T : Addr) (H0 : Hp) : List (List Int × D) → List Ent → Prop
  | nil : Ents T H0 [] []
  | cons {k : List Int} {d : D} {xa : Addr} {xv : Value} {vs : List V} {v : V} {kvs : List (List Int × D)} {ents : List Ent} (hk : H0 xa = some (.tup vs)) (hv : keyV k vs) (r : RelV v xv) (h : Rep T H0 d v) (t : Ents T H0 kvs ents) : Ents T H0 ((k, d) :: kvs) ((nk k, xa, xv) :: ents)
theorem Ents.mono {T : Addr} {H H' : Hp} (e : Same H H') {kvs : List (List Int × D)} {ents : List Ent} (h : Ents T H kvs ents) : Ents T H' kvs ents := by
  induction h with
  | nil => exact .nil
  | cons hk hv r h t ih => exact .cons (e _ _ hk) hv r (Rep.mono e _ _ h) ih

/-- the deck of the law: its dict by three names, the list of its cells at c -/
def dKvs (c : Addr) (m n : Int) : List (Key × V) := [(.inr "cells", .ref c), (.inr "mixed", .int m), (.inr "draws", .int n)]
def cellsR (c : Addr) : Heap → Prop := fun h => ∃ (cells : List Int) (its : List Value) (k : Nat), cells.length ≤ 64 ∧ Vals (cells.map V.int) its ∧ h.get? c = some { cls := .type "list", data := .seq its.toArray k }
/-- the object at a, the owned datum -/
def Own (F : Fm) (H0 H : Hp) (a : Addr) : LV → Prop
  | .un => False
  | .d _ => False
  | .L xs => ∃ vs, H a = some (.lst vs) ∧ Reps F.T H0 xs vs
  | .M ks xs => ∃ vs, H a = some (.dK (ks.zip vs)) ∧ ks.length = xs.length ∧ Reps F.T H0 xs vs
  | .T kvs => ∃ ents, H a = some (.ext (dictAt F.P F.w a ents)) ∧ Ents F.T H0 kvs ents
  | .N x fs => a = x ∧ ∃ dx vs, H a = some (.ins F.T dx ((fieldNames.take fs.length).zip vs)) ∧ Reps F.T H0 fs vs
  | .K d c n => a = d ∧ F.B c = some (.ext (cellsR c)) ∧ ∃ m n0 : Int, H a = some (.dK (dKvs c m n0)) ∧ 0 ≤ m ∧ m < 2147483587 ∧ 0 ≤ n0 ∧ n0 ≤ n
def isOwn : LV → Bool
  | .L _ => true
  | .M _ _ => true
  | .T _ => true
  | .N _ _ => true
  | .K _ _ _ => true
  | _ => false
structure SRep (F : Fm) (H0 : Hp) (σ : L2.St) (H : Hp) (δ : List LV) : Prop where
  zb : Same F.Z H0
  ex : Same H0 H
  bb : Same F.B H
  fr : New F.Z H0 F.B
  len : δ.length = σ.length
  dat : ∀ (i : Nat) (x : D), δ[i]? = some (LV.d x) → ∃ v : V, σ[i]? = some (some v) ∧ Rep F.T H0 x v
  own : ∀ (i : Nat) (l : LV), δ[i]? = some l → isOwn l = true → ∃ a : Addr, σ[i]? = some (some (V.ref a)) ∧ H0 a = none ∧ F.B a = none ∧ Own F H0 H a l
  sep : ∀ (i j : Nat) (l m : LV) (a : Addr), δ[i]? = some l → isOwn l = true → δ[j]? = some m → isOwn m = true → σ[i]? = some (some (V.ref a)) → σ[j]? = some (some (V.ref a)) → i = j

section
variable {F : Fm} {H0 H H0' H' : Hp} {σ : L2.St} {δ : List LV}
theorem Own.some {a : Addr} {l : LV} (h : Own F H0 H a l) : ∃ o, H a = some o := by
  cases l with
  | un => exact h.elim
  | d _ => exact h.elim
  | L xs => obtain ⟨vs, e, _⟩ := h; exact ⟨_, e⟩
  | M ks xs => obtain ⟨vs, e, _⟩ := h; exact ⟨_, e⟩
  | T kvs => obtain ⟨vs, e, _⟩ := h; exact ⟨_, e⟩
  | N x fs => obtain ⟨_, dx, vs, e, _⟩ := h; exact ⟨_, e⟩
  | K d c n => obtain ⟨_, _, m, n0, e, _⟩ := h; exact ⟨_, e⟩
theorem Own.mut {a : Addr} {l : LV} (h : Own F H0 H a l) : Mut (H a) := by
  cases l with
  | un => exact h.elim
  | d _ => exact h.elim
  | L xs => obtain ⟨vs, e, _⟩ := h; rw [e]; exact True.intro
  | M ks xs => obtain ⟨vs, e, _⟩ := h; rw [e]; exact True.intro
  | T kvs => obtain ⟨vs, e, _⟩ := h; rw [e]; exact True.intro
  | N x fs => obtain ⟨_, dx, vs, e, _⟩ := h; rw [e]; exact True.intro
  | K d c n => obtain ⟨_, _, m, n0, e, _⟩ := h; rw [e]; exact True.intro
theorem Own.mono {a : Addr} {l : LV} (h : Own F H0 H a l) (s0 : Same H0 H0') (e : H' a = H a) : Own F H0' H' a l := by
  cases l with
  | un => exact h.elim
  | d _ => exact h.elim
  | L xs => obtain ⟨vs, e1, r⟩ := h; exact ⟨vs, e.trans e1, Reps.mono s0 _ _ r⟩
  | M ks xs => obtain ⟨vs, e1, l, r⟩ := h; exact ⟨vs, e.trans e1, l, Reps.mono s0 _ _ r⟩
  | T kvs => obtain ⟨vs, e1, r⟩ := h; exact ⟨vs, e.trans e1, r.mono s0⟩
  | N x fs => obtain ⟨ex, dx, vs, e1, r⟩ := h; exact ⟨ex, dx, vs, e.trans e1, Reps.mono s0 _ _ r⟩
  | K d c n => obtain ⟨ed, ec, m, n0, e1, r⟩ := h; exact ⟨ed, ec, m, n0, e.trans e1, r⟩
theorem SRep.grow (S : SRep F H0 σ H δ) (sH : Same H H') (s0 : Same H0 H0') (ex : Same H0' H') (nw : New H0 H0' H) : SRep F H0' σ H' δ where
  zb := S.zb.trans s0
  ex := ex
  bb := S.bb.trans sH
  fr := fun a o h => by
    rcases nw a o h with h | h
    · exact S.fr a o h
    · exact .inr (S.bb.free h)
  len := S.len
  dat := fun i x h => by
    obtain ⟨v, e, r⟩ := S.dat i x h
    exact ⟨v, e, Rep.mono s0 _ _ r⟩
  own := fun i l h io => by
    obtain ⟨a, e, h0, hb, o⟩ := S.own i l h io
    obtain ⟨ob, hob⟩ := o.some
    refine ⟨a, e, ?_, hb, o.mono s0 ?_⟩
    · cases q : H0' a with
      | none => rfl
      | some u =>
        rcases nw a u q with z | z
        · rw [h0] at z; cases z
        · rw [hob] at z; cases z
    · rw [sH _ _ hob, hob]
  sep := S.sep
/-- both heaps have grown; what is new among the data was new -/
structure Gr (H0 H H0' H' : Hp) : Prop where
  s : Same H H'
  s0 : Same H0 H0'
  ex : Same H0' H'
  nw : New H0 H0' H
theorem Gr.refl (e : Same H0 H) : Gr H0 H H0 H := ⟨Same.refl _, Same.refl _, e, New.refl⟩
theorem Gr.trans {H1 H2 H01 H02 : Hp} (a : Gr H0 H H01 H1) (b : Gr H01 H1 H02 H2) : Gr H0 H H02 H2 := ⟨a.s.trans b.s, a.s0.trans b.s0, b.ex, a.nw.trans b.nw a.s⟩
/-- a new datum -/
theorem Gr.new {p : Addr} {o : HO} (e : Same H0 H) (h : H p = none) : Gr H0 H (upd H0 p o) (upd H p o) := ⟨same_new h, same_new (e.free h), same_both e, new_upd h⟩
/-- a new object that is no datum -/
theorem Gr.laid {p : Addr} {o : HO} (e : Same H0 H) (h : H p = none) : Gr H0 H H0 (upd H p o) := ⟨same_new h, Same.refl _, e.trans (same_new h), New.refl⟩
theorem Gr.freeze {p : Addr} {o : HO} {H0 H H0' H' : Hp} (g : Gr H0 H H0' H') (h : H p = none) (h0 : H0' p = none) (hv : H' p = some o) : Gr H0 H (upd H0' p o) H' := by
  refine ⟨g.s, g.s0.trans (same_new h0), fun b u q => ?_, fun b u q => ?_⟩
  · by_cases z : b = p
    · subst z; rw [upd_same] at q; cases q; exact hv
    · rw [upd_ne z] at q; exact g.ex b u q
  · by_cases z : b = p
    · subst z; exact .inr h
    · rw [upd_ne z] at q; exact g.nw b u q
theorem SRep.gr (S : SRep F H0 σ H δ) (g : Gr H0 H H0' H') : SRep F H0' σ H' δ := S.grow g.s g.s0 g.ex g.nw
theorem SRep.refl (S : SRep F H0 σ H δ) : Same H0 H := S.ex
/-- a slot gets a datum -/
theorem SRep.set (S : SRep F H0 σ H δ) (i : Nat) {x : D} {v : V} (h : Rep F.T H0 x v) : SRep F H0 (σ.set i (some v)) H (δ.set i (.d x)) where
  zb := S.zb
  ex := S.ex
  bb := S.bb
  fr := S.fr
  len := by rw [List.length_set, List.length_set]; exact S.len
  dat := fun j y e => by
    by_cases q : i = j
    · subst q
      have hi : i < δ.length := by
        rcases Nat.lt_or_ge i δ.length with z | z
        · exact z
        · rw [List.getElem?_eq_none (by rw [List.length_set]; exact z)] at e; cases e
      rw [List.getElem?_set_self hi] at e
      cases e
      exact ⟨v, by rw [List.getElem?_set_self (by rw [← S.len]; exact hi)], h⟩
    · rw [List.getElem?_set_ne q] at e ⊢
      exact S.dat j y e
  own := fun j l e io => by
    by_cases q : i = j
    · subst q
      have hi : i < δ.length := by
        rcases Nat.lt_or_ge i δ.length with z | z
        · exact z
        · rw [List.getElem?_eq_none (by rw [List.length_set]; exact z)] at e; cases e
      rw [List.getElem?_set_self hi] at e
      cases e; cases io
    · rw [List.getElem?_set_ne q] at e ⊢
      exact S.own j l e io
  sep := fun j k l m a e1 o1 e2 o2 e3 e4 => by
    have nj : i ≠ j := fun q => by
      subst q
      have hi : i < δ.length := by
        rcases Nat.lt_or_ge i δ.length with z | z
        · exact z
        · rw [List.getElem?_eq_none (by rw [List.length_set]; exact z)] at e1; cases e1
      rw [List.getElem?_set_self hi] at e1; cases e1; cases o1
    have nk : i ≠ k := fun q => by
      subst q
      have hi : i < δ.length := by
        rcases Nat.lt_or_ge i δ.length with z | z
        · exact z
        · rw [List.getElem?_eq_none (by rw [List.length_set]; exact z)] at e2; cases e2
      rw [List.getElem?_set_self hi] at e2; cases e2; cases o2
    rw [List.getElem?_set_ne nj] at e1 e3
    rw [List.getElem?_set_ne nk] at e2 e4
    exact S.sep j k l m a e1 o1 e2 o2 e3 e4
/-- a slot gets an object of its own that no other slot has -/
theorem SRep.setOwn (S : SRep F H0 σ H δ) (i : Nat) {l : LV} {p : Addr} (io : isOwn l = true) (h0 : H0 p = none) (hb : F.B p = none) (o : Own F H0 H p l)
    (un : ∀ (j : Nat) (m : LV), δ[j]? = some m → isOwn m = true → σ[j]? = some (some (V.ref p)) → j = i) : SRep F H0 (σ.set i (some (.ref p))) H (δ.set i l) where
  zb := S.zb
  ex := S.ex
  bb := S.bb
  fr := S.fr
  len := by rw [List.length_set, List.length_set]; exact S.len
  dat := fun j y e => by
    by_cases q : i = j
    · subst q
      have hi : i < δ.length := by
        rcases Nat.lt_or_ge i δ.length with z | z
        · exact z
        · rw [List.getElem?_eq_none (by rw [List.length_set]; exact z)] at e; cases e
      rw [List.getElem?_set_self hi] at e
      cases e; cases io
    · rw [List.getElem?_set_ne q] at e ⊢
      exact S.dat j y e
  own := fun j l' e io' => by
    by_cases q : i = j
    · subst q
      have hi : i < δ.length := by
        rcases Nat.lt_or_ge i δ.length with z | z
        · exact z
        · rw [List.getElem?_eq_none (by rw [List.length_set]; exact z)] at e; cases e
      rw [List.getElem?_set_self hi] at e
      cases e
      exact ⟨p, by rw [List.getElem?_set_self (by rw [← S.len]; exact hi)], h0, hb, o⟩
    · rw [List.getElem?_set_ne q] at e ⊢
      exact S.own j l' e io'
  sep := fun j k l1 l2 a e1 o1 e2 o2 e3 e4 => by
    have main : ∀ j k l1 l2, (δ.set i l)[j]? = some l1 → isOwn l1 = true → (δ.set i l)[k]? = some l2 → isOwn l2 = true → (σ.set i (some (.ref p)))[j]? = some (some (.ref a)) → (σ.set i (some (.ref p)))[k]? = some (some (.ref a)) → j = i → j = k := by
      intro j k l1 l2 e1 o1 e2 o2 e3 e4 q
      subst q
      have hi : j < σ.length := by
        rcases Nat.lt_or_ge j σ.length with z | z
        · exact z
        · rw [List.getElem?_eq_none (by rw [List.length_set]; exact z)] at e3; cases e3
      rw [List.getElem?_set_self hi] at e3
      cases e3
      by_cases z : j = k
      · exact z
      · rw [List.getElem?_set_ne z] at e2 e4
        exact (un k l2 e2 o2 e4).symm
    by_cases q : j = i
    · exact main j k l1 l2 e1 o1 e2 o2 e3 e4 q
    · by_cases q2 : k = i
      · exact (main k j l2 l1 e2 o2 e1 o1 e4 e3 q2).symm
      · rw [List.getElem?_set_ne (Ne.symm q)] at e1 e3
        rw [List.getElem?_set_ne (Ne.symm q2)] at e2 e4
        exact S.sep j k l1 l2 a e1 o1 e2 o2 e3 e4
/-- the object of a slot changes -/
theorem SRep.mutate (S : SRep F H0 σ H δ) {i : Nat} {l l' : LV} {a : Addr} {o : HO} (e : δ[i]? = some l) (io : isOwn l = true) (ea : σ[i]? = some (some (.ref a))) (io' : isOwn l' = true)
    (new : Own F H0 (upd H a o) a l') : SRep F H0 σ (upd H a o) (δ.set i l') := by
  obtain ⟨a', ea', h0, hb, ow⟩ := S.own i l e io
  rw [ea] at ea'; cases ea'
  have hi : i < δ.length := (List.getElem?_eq_some_iff.mp e).1
  refine ⟨S.zb, same_mut S.ex h0, same_mut S.bb hb, S.fr, by rw [List.length_set]; exact S.len, fun j y ej => ?_, fun j m ej oj => ?_, fun j k m n c e1 o1 e2 o2 e3 e4 => ?_⟩
  · by_cases q : i = j
    · subst q; rw [List.getElem?_set_self hi] at ej; cases ej; cases io'
    · rw [List.getElem?_set_ne q] at ej; exact S.dat j y ej
  · by_cases q : i = j
    · subst q; rw [List.getElem?_set_self hi] at ej; cases ej; exact ⟨a, ea, h0, hb, new⟩
    · rw [List.getElem?_set_ne q] at ej
      obtain ⟨c, ec, h1, h2, oc⟩ := S.own j m ej oj
      have ne : c ≠ a := fun z => by
        subst z
        exact q (S.sep i j l m c e io ej oj ea ec)
      exact ⟨c, ec, h1, h2, oc.mono (Same.refl _) (upd_ne ne)⟩
  · have fix : ∀ j m, (δ.set i l')[j]? = some m → isOwn m = true → ∃ m', δ[j]? = some m' ∧ isOwn m' = true := fun j m ej oj => by
      by_cases q : i = j
      · subst q; exact ⟨l, e, io⟩
      · rw [List.getElem?_set_ne q] at ej; exact ⟨m, ej, oj⟩
    obtain ⟨m', f1, f2⟩ := fix j m e1 o1
    obtain ⟨n', g1, g2⟩ := fix k n e2 o2
    exact S.sep j k m' n' c f1 f2 g1 g2 e3 e4
/-- an owned object becomes a datum -/
def frozen : LV → D
  | .L xs => .lst xs
  | .M ks xs => .dk ks xs
  | _ => .non
theorem SRep.freeze (S : SRep F H0 σ H δ) {i : Nat} {l : LV} (e : δ[i]? = some l) (io : isOwn l = true) (nt : (∀ kvs, l ≠ .T kvs) ∧ (∀ x fs, l ≠ .N x fs) ∧ ∀ d c n, l ≠ .K d c n) : ∃ H0', Same H0 H0' ∧ SRep F H0' σ H (δ.set i (.d (frozen l))) := by
  obtain ⟨a, ea, h0, hb, ow⟩ := S.own i l e io
  obtain ⟨o, ho⟩ := ow.some
  have hi : i < δ.length := (List.getElem?_eq_some_iff.mp e).1
  have s0 : Same H0 (upd H0 a o) := same_new h0
  refine ⟨upd H0 a o, s0, S.zb.trans s0, fun b x h => ?_, S.bb, fun b x h => ?_, by rw [List.length_set]; exact S.len, fun j y ej => ?_, fun j m ej oj => ?_, fun j k m n c e1 o1 e2 o2 e3 e4 => ?_⟩
  · by_cases q : b = a
    · subst q; rw [upd_same] at h; cases h; exact ho
    · rw [upd_ne q] at h; exact S.ex b x h
  · by_cases q : b = a
    · subst q; exact .inr hb
    · rw [upd_ne q] at h; exact S.fr b x h
  · by_cases q : i = j
    · subst q
      rw [List.getElem?_set_self hi] at ej
      cases ej
      refine ⟨.ref a, ea, ?_⟩
      cases l with
      | un => cases io
      | d _ => cases io
      | L xs =>
        obtain ⟨vs, e1, r⟩ := ow
        rw [e1] at ho; cases ho
        exact rep_lst.mpr ⟨a, vs, rfl, upd_same, Reps.mono s0 _ _ r⟩
      | M ks xs =>
        obtain ⟨vs, e1, l, r⟩ := ow
        rw [e1] at ho; cases ho
        exact rep_dk.mpr ⟨a, vs, rfl, upd_same, l, Reps.mono s0 _ _ r⟩
      | T kvs => exact absurd rfl (nt.1 kvs)
      | N x fs => exact absurd rfl (nt.2.1 x fs)
      | K d c n => exact absurd rfl (nt.2.2 d c n)
    · rw [List.getElem?_set_ne q] at ej
      obtain ⟨v, e1, r⟩ := S.dat j y ej
      exact ⟨v, e1, Rep.mono s0 _ _ r⟩
  · by_cases q : i = j
    · subst q; rw [List.getElem?_set_self hi] at ej; cases ej; cases oj
    · rw [List.getElem?_set_ne q] at ej
      obtain ⟨c, ec, h1, h2, oc⟩ := S.own j m ej oj
      have ne : c ≠ a := fun z => by
        subst z
        exact q (S.sep i j l m c e io ej oj ea ec)
      exact ⟨c, ec, by rw [upd_ne ne]; exact h1, h2, oc.mono s0 rfl⟩
  · have fix : ∀ j m, (δ.set i (.d (frozen l)))[j]? = some m → isOwn m = true → δ[j]? = some m := fun j m ej oj => by
      by_cases q : i = j
      · subst q; rw [List.getElem?_set_self hi] at ej; cases ej; cases oj
      · rw [List.getElem?_set_ne q] at ej; exact ej
    exact S.sep j k m n c (fix j m e1 o1) o1 (fix k n e2 o2) o2 e3 e4
/-- δ' tells no more than δ -/
def Le (δ' δ : List LV) : Prop := δ'.length = δ.length ∧ ∀ (i : Nat) (l : LV), δ'[i]? = some l → l = LV.un ∨ δ[i]? = some l
theorem SRep.weak {δ' : List LV} (S : SRep F H0 σ H δ) (h : Le δ' δ) : SRep F H0 σ H δ' where
  zb := S.zb
  ex := S.ex
  bb := S.bb
  fr := S.fr
  len := h.1.trans S.len
  dat := fun i x e => by
    rcases h.2 i _ e with z | z
    · cases z
    · exact S.dat i x z
  own := fun i l e io => by
    rcases h.2 i _ e with z | z
    · subst z; cases io
    · exact S.own i l z io
  sep := fun i j l m a e1 o1 e2 o2 e3 e4 => by
    rcases h.2 i _ e1 with z | z
    · subst z; cases o1
    · rcases h.2 j _ e2 with z' | z'
      · subst z'; cases o2
      · exact S.sep i j l m a z o1 z' o2 e3 e4
theorem Le.refl (δ : List LV) : Le δ δ := ⟨rfl, fun i l h => .inr h⟩
theorem Le.set_un (δ : List LV) (i : Nat) : Le (δ.set i .un) δ := ⟨List.length_set, fun j l h => by
  by_cases q : i = j
  · subst q
    rcases Nat.lt_or_ge i δ.length with z | z
    · rw [List.getElem?_set_self z] at h; cases h; exact .inl rfl
    · rw [List.getElem?_eq_none (by rw [List.length_set]; exact z)] at h; cases h
  · rw [List.getElem?_set_ne q] at h; exact .inr h⟩
theorem Le.trans {a b c : List LV} (h : Le a b) (k : Le b c) : Le a c := ⟨h.1.trans k.1, fun i l e => by
  rcases h.2 i l e with z | z
  · exact .inl z
  · exact k.2 i l z⟩
/-- σ' knows no less than δ' asks: slots of σ may be forgotten where δ' says nothing -/
theorem SRep.slots {σ' : L2.St} (S : SRep F H0 σ H δ) (hl : σ'.length = σ.length) (h : ∀ (i : Nat) l, δ[i]? = some l → l ≠ LV.un → σ'[i]? = σ[i]?) : SRep F H0 σ' H δ where
  zb := S.zb
  ex := S.ex
  bb := S.bb
  fr := S.fr
  len := S.len.trans hl.symm
  dat := fun i x e => by
    rw [h i _ e (fun z => by cases z)]
    exact S.dat i x e
  own := fun i l e io => by
    rw [h i _ e (fun z => by subst z; cases io)]
    exact S.own i l e io
  sep := fun i j l m a e1 o1 e2 o2 e3 e4 => by
    rw [h i _ e1 (fun z => by subst z; cases o1)] at e3
    rw [h j _ e2 (fun z => by subst z; cases o2)] at e4
    exact S.sep i j l m a e1 o1 e2 o2 e3 e4
end
end Dl
end
section
set_option Elab.async false
set_option linter.all false
set_option maxRecDepth 100000
set_option maxHeartbeats 2000000
/-! Judgements: expressions, tests, arguments by data. -/
namespace Dl
open PySem PySem.Spec PyProof.Rows L2

theorem PE.imp {X : Cx} {e : Expr} {t t' : TE} (h : PE X e t) (f : ∀ σ H Q, t' σ H Q → t σ H Q) : PE X e t' := ⟨fun pins s σ H Q I q => h.run pins s σ H Q I (f σ H Q q)⟩
theorem PT.imp {X : Cx} {e : Expr} {t t' : TT} (h : PT X e t) (f : ∀ σ H Q, t' σ H Q → t σ H Q) : PT X e t' := ⟨fun pins s σ H Q I q => h.run pins s σ H Q I (f σ H Q q)⟩
theorem PW.imp {X : Cx} {e : Expr} {t t' : TT} (h : PW X e t) (f : ∀ σ H Q, t' σ H Q → t σ H Q) : PW X e t' := ⟨fun wh pins s σ H Q I q => h.run wh pins s σ H Q I (f σ H Q q)⟩
theorem PA.imp {X : Cx} {e : List Expr} {t t' : TA} (h : PA X e t) (f : ∀ σ H Q, t' σ H Q → t σ H Q) : PA X e t' := ⟨fun po pins s σ H Q I q => h.run po pins s σ H Q I (f σ H Q q)⟩
theorem PS.imp {X : Cx} {e : Stmt} {t t' : TS} (h : PS X e t) (f : ∀ D σ H, t' D σ H → t D σ H) : PS X e t' := ⟨fun pins s σ H D I q => h.run pins s σ H D I (f D σ H q)⟩
theorem PSs.imp {X : Cx} {e : List Stmt} {t t' : TS} (h : PSs X e t) (f : ∀ D σ H, t' D σ H → t D σ H) : PSs X e t' := ⟨fun pins s σ H D I q => h.run pins s σ H D I (f D σ H q)⟩
theorem PI.imp {X : Cx} {tg e : Expr} {t t' : TI} (h : PI X tg e t) (f : ∀ σ H R, t' σ H R → t σ H R) : PI X tg e t' := ⟨fun pins s σ H R I q => h.run pins s σ H R I (f σ H R q)⟩

/-- the top object as it stands in H, its parts data of H0 -/
def RepO (T : Addr) (H0 H : Hp) : D → V → Prop
  | .lst ds, v => ∃ a vs, v = .ref a ∧ H a = some (.lst vs) ∧ Reps T H0 ds vs
  | .dk ks ds, v => ∃ a vs, v = .ref a ∧ H a = some (.dK (ks.zip vs)) ∧ ks.length = ds.length ∧ Reps T H0 ds vs
  | .tup ds, v => ∃ a vs, v = .ref a ∧ H a = some (.tup vs) ∧ Reps T H0 ds vs
  | x, v => Rep T H0 x v
section
variable {T : Addr} {H0 H H0' H' : Hp} {x : D} {v : V}
theorem Rep.o (h : Rep T H0 x v) (s : Same H0 H) : RepO T H0 H x v := by
  cases x with
  | lst ds =>
    obtain ⟨a, vs, e, e2, r⟩ := rep_lst.mp h
    exact ⟨a, vs, e, s _ _ e2, r⟩
  | tup ds =>
    obtain ⟨a, vs, e, e2, r⟩ := rep_tup.mp h
    exact ⟨a, vs, e, s _ _ e2, r⟩
  | dk ks ds =>
    obtain ⟨a, vs, e, e2, r⟩ := rep_dk.mp h
    exact ⟨a, vs, e, s _ _ e2, r⟩
  | _ => exact h
theorem RepO.mono (h : RepO T H0 H x v) (s0 : Same H0 H0') (s : Same H H') : RepO T H0' H' x v := by
  cases x with
  | lst ds =>
    obtain ⟨a, vs, e, e2, r⟩ := h
    exact ⟨a, vs, e, s _ _ e2, Reps.mono s0 _ _ r⟩
  | tup ds =>
    obtain ⟨a, vs, e, e2, r⟩ := h
    exact ⟨a, vs, e, s _ _ e2, Reps.mono s0 _ _ r⟩
  | dk ks ds =>
    obtain ⟨a, vs, e, e2, l, r⟩ := h
    exact ⟨a, vs, e, s _ _ e2, l, Reps.mono s0 _ _ r⟩
  | _ => exact Rep.mono s0 _ _ h
theorem RepO.rep (h : RepO T H0 H x v) (s : Same H0 H) : Rep T H x v := by
  cases x with
  | lst ds =>
    obtain ⟨a, vs, e, e2, r⟩ := h
    exact rep_lst.mpr ⟨a, vs, e, e2, Reps.mono s _ _ r⟩
  | tup ds =>
    obtain ⟨a, vs, e, e2, r⟩ := h
    exact rep_tup.mpr ⟨a, vs, e, e2, Reps.mono s _ _ r⟩
  | dk ks ds =>
    obtain ⟨a, vs, e, e2, l, r⟩ := h
    exact rep_dk.mpr ⟨a, vs, e, e2, l, Reps.mono s _ _ r⟩
  | _ => exact Rep.mono s _ _ h
theorem oI {i : Int} (h : RepO T H0 H (.int i) v) : v = .int i := rep_int.mp (show Rep T H0 (.int i) v from h)
theorem oS {i : Str} (h : RepO T H0 H (.str i) v) : v = .str i := rep_str.mp (show Rep T H0 (.str i) v from h)
theorem oB {i : Bool} (h : RepO T H0 H (.bl i) v) : v = .bl i := rep_bl.mp (show Rep T H0 (.bl i) v from h)
theorem oN (h : RepO T H0 H .non v) : v = .non := rep_non.mp (show Rep T H0 .non v from h)
end

def tX (F : Fm) (δ : List LV) (x : D) : TE := fun σ H Q => ∃ H0, SRep F H0 σ H δ ∧ ∀ v H' H0', Gr H0 H H0' H' → Rep F.T H0' x v → Q v H'
def tR (F : Fm) (δ : List LV) (x : D) : TE := fun σ H Q => ∃ H0, SRep F H0 σ H δ ∧ ∀ v H' H0', Gr H0 H H0' H' → RepO F.T H0' H' x v → Q v H'
/-- a new list that nobody else has -/
def tL (F : Fm) (δ : List LV) (xs : List D) : TE := fun σ H Q => ∃ H0, SRep F H0 σ H δ ∧ ∀ p vs H' H0', Gr H0 H H0' H' → H p = none → H0' p = none → H' p = some (.lst vs) → Reps F.T H0' xs vs → Q (.ref p) H'
/-- a new dict -/
def tM (F : Fm) (δ : List LV) (ks : List Key) (xs : List D) : TE := fun σ H Q => ∃ H0, SRep F H0 σ H δ ∧ ∀ p vs H' H0', Gr H0 H H0' H' → H p = none → H0' p = none → H' p = some (.dK (ks.zip vs)) → ks.length = xs.length → Reps F.T H0' xs vs → Q (.ref p) H'
def tT (F : Fm) (δ : List LV) (b : Bool) : TT := fun σ H Q => ∃ H0, SRep F H0 σ H δ ∧ ∀ H' H0', Gr H0 H H0' H' → Q b H'
def tA (F : Fm) (δ : List LV) (xs : List D) : TA := fun σ H Q => ∃ H0, SRep F H0 σ H δ ∧ ∀ vs H' H0', Gr H0 H H0' H' → Reps F.T H0' xs vs → Q vs H'
def RepsO (T : Addr) (H0 H : Hp) : List D → List V → Prop
  | [], vs => vs = []
  | d :: ds, vs => ∃ v r, vs = v :: r ∧ RepO T H0 H d v ∧ RepsO T H0 H ds r
def tAR (F : Fm) (δ : List LV) (xs : List D) : TA := fun σ H Q => ∃ H0, SRep F H0 σ H δ ∧ ∀ vs H' H0', Gr H0 H H0' H' → RepsO F.T H0' H' xs vs → Q vs H'

abbrev XE (X : Cx) (F : Fm) (e : Expr) (δ : List LV) (x : D) : Prop := PE X e (tX F δ x)
abbrev XR (X : Cx) (F : Fm) (e : Expr) (δ : List LV) (x : D) : Prop := PE X e (tR F δ x)
abbrev XL (X : Cx) (F : Fm) (e : Expr) (δ : List LV) (xs : List D) : Prop := PE X e (tL F δ xs)
abbrev XM (X : Cx) (F : Fm) (e : Expr) (δ : List LV) (ks : List Key) (xs : List D) : Prop := PE X e (tM F δ ks xs)
abbrev XT (X : Cx) (F : Fm) (e : Expr) (δ : List LV) (b : Bool) : Prop := PT X e (tT F δ b)
abbrev XA (X : Cx) (F : Fm) (es : List Expr) (δ : List LV) (xs : List D) : Prop := PA X es (tA F δ xs)
abbrev XAR (X : Cx) (F : Fm) (es : List Expr) (δ : List LV) (xs : List D) : Prop := PA X es (tAR F δ xs)

section
variable {X : Cx} {F : Fm} {δ : List LV} {a b c e : Expr} {es : List Expr} {x y z : D} {pos : Pos} {σ : L2.St} {H : Hp}

/-! ### the forms among one another -/
theorem XE.r (h : XE X F e δ x) : XR X F e δ x := PE.imp h fun σ H Q ⟨H0, S, k⟩ => ⟨H0, S, fun v H' H0' g r => k v H' H0' g (r.o g.ex)⟩
theorem XL.xe {xs : List D} (h : XL X F e δ xs) : XE X F e δ (.lst xs) := PE.imp h fun σ H Q ⟨H0, S, k⟩ => ⟨H0, S, fun p vs H' H0' g hp h0 hv r =>
  k (.ref p) H' _ (g.freeze hp h0 hv) (rep_lst.mpr ⟨p, vs, rfl, upd_same, Reps.mono (same_new h0) _ _ r⟩)⟩
theorem XM.xe {ks : List Key} {xs : List D} (h : XM X F e δ ks xs) : XE X F e δ (.dk ks xs) := PE.imp h fun σ H Q ⟨H0, S, k⟩ => ⟨H0, S, fun p vs H' H0' g hp h0 hv hl r =>
  k (.ref p) H' _ (g.freeze hp h0 hv) (rep_dk.mpr ⟨p, vs, rfl, upd_same, hl, Reps.mono (same_new h0) _ _ r⟩)⟩
theorem XE.eq (h : XE X F e δ x) (q : x = y) : XE X F e δ y := q ▸ h
theorem XL.eq {xs ys : List D} (h : XL X F e δ xs) (q : xs = ys) : XL X F e δ ys := q ▸ h
theorem XT.eq {p q : Bool} (h : XT X F e δ p) (k : p = q) : XT X F e δ q := k ▸ h

/-! ### names, constants -/
theorem x_var (i : Nat) {n : Str} (hx : δ[i]? = some (.d x) := by rfl) (hN : X.N[i]? = some n := by rfl) (hv : Vis X.env.scope n := by first | exact Or.inl rfl | exact Or.inr (Or.inl rfl) | exact Or.inr (Or.inr rfl)) (hd : (n == ("__debug__" : Str)) = false := by decide)
    (hcd : (n == ("__classdict__" : Str)) = false := by decide) : XE X F (.Name n pos) δ x := PE.imp (pe_var (i := i) hN hv hd hcd) fun σ H Q ⟨H0, S, k⟩ => by
  obtain ⟨v, e, r⟩ := S.dat i x hx
  exact ⟨v, e, k v H H0 (Gr.refl S.ex) r⟩
theorem r_own (i : Nat) {l : LV} {n : Str} (hx : δ[i]? = some l := by rfl) (io : (match l with | .L _ => true | .M _ _ => true | _ => false) = true := by rfl) (hN : X.N[i]? = some n := by rfl) (hv : Vis X.env.scope n := by first | exact Or.inl rfl | exact Or.inr (Or.inl rfl) | exact Or.inr (Or.inr rfl)) (hd : (n == ("__debug__" : Str)) = false := by decide)
    (hcd : (n == ("__classdict__" : Str)) = false := by decide) : XR X F (.Name n pos) δ (frozen l) := PE.imp (pe_var (i := i) hN hv hd hcd) fun σ H Q ⟨H0, S, k⟩ => by
  obtain ⟨a, e, h0, hb, o⟩ := S.own i l hx (by cases l <;> first | rfl | cases io)
  refine ⟨.ref a, e, k _ H H0 (Gr.refl S.ex) ?_⟩
  cases l with
  | L xs => obtain ⟨vs, e1, r⟩ := o; exact ⟨a, vs, rfl, e1, r⟩
  | M ks xs => obtain ⟨vs, e1, l, r⟩ := o; exact ⟨a, vs, rfl, e1, l, r⟩
  | _ => cases io
/-- a value that is what it is in any heap -/
inductive Sc : D → V → Prop
  | non : Sc .non .non
  | bl (b : Bool) : Sc (.bl b) (.bl b)
  | int (i : Int) : Sc (.int i) (.int i)
  | str (s : Str) : Sc (.str s) (.str s)
theorem Sc.rep {T : Addr} {H : Hp} {d : D} {v : V} (h : Sc d v) : Rep T H d v := by
  cases h with
  | non => exact rep_non.mpr rfl
  | bl b => exact rep_bl.mpr rfl
  | int i => exact rep_int.mpr rfl
  | str s => exact rep_str.mpr rfl
theorem x_c {v : V} (h : PE X e (tC v)) (s : Sc x v) : XE X F e δ x := PE.imp h fun σ H Q ⟨H0, S, k⟩ => k v H H0 (Gr.refl S.ex) s.rep
theorem x_int {i : Int} {j : Nat} : XE X F (.Constant (.int i) j pos) δ (.int i) := x_c pe_int (.int i)
theorem x_bl {i : Bool} {j : Nat} : XE X F (.Constant (.bool i) j pos) δ (.bl i) := x_c pe_bl (.bl i)
theorem x_str {i : Str} {j : Nat} : XE X F (.Constant (.str i) j pos) δ (.str i) := x_c pe_str (.str i)
theorem x_non {j : Nat} : XE X F (.Constant .none j pos) δ .non := x_c pe_non .non
theorem x_gstr {n s : Str} (hg : Gl X n) (hm : ∃ t, X.mg n = some (.str s t)) (hd : (n == ("__debug__" : Str)) = false := by decide) : XE X F (.Name n pos) δ (.str s) := by
  obtain ⟨t, hm⟩ := hm
  exact x_c (pe_glob (v := .str s) hg hm ⟨t, rfl⟩ hd) (.str s)
theorem x_gint {n : Str} {s : Int} (hg : Gl X n) (hm : ∃ t, X.mg n = some (.int s t)) (hd : (n == ("__debug__" : Str)) = false := by decide) : XE X F (.Name n pos) δ (.int s) := by
  obtain ⟨t, hm⟩ := hm
  exact x_c (pe_glob (v := .int s) hg hm ⟨t, rfl⟩ hd) (.int s)

/-! ### two operands -/
theorem two {Q : V → V → Hp → Prop} (h : ∃ H0, SRep F H0 σ H δ ∧ ∀ v w H' H0', Gr H0 H H0' H' → RepO F.T H0' H' x v → RepO F.T H0' H' y w → Q v w H') :
    tR F δ x σ H fun v H1 => tR F δ y σ H1 fun w H2 => Q v w H2 := by
  obtain ⟨H0, S, k⟩ := h
  exact ⟨H0, S, fun v H1 H01 g1 r1 => ⟨H01, S.gr g1, fun w H2 H02 g2 r2 => k v w H2 H02 (g1.trans g2) (r1.mono g2.s0 g2.s) r2⟩⟩
theorem x_opR {r : R2} (h : PE X e (tOp r (tR F δ x) (tR F δ y))) (hr : ∀ H0 H v w (Q : VK), Same H0 H → RepO F.T H0 H x v → RepO F.T H0 H y w → (∀ u, Rep F.T H0 z u → Q u H) → r v w H Q) : XE X F e δ z :=
  PE.imp h fun σ H Q ⟨H0, S, k⟩ => two (Q := fun v w H' => r v w H' Q) ⟨H0, S, fun v w H' H0' g r1 r2 => hr H0' H' v w Q g.ex r1 r2 fun u ru => k u H' H0' g ru⟩
theorem x_op {op : Operator} {r : R2} (ho : OpR X (binaryOp op) r) (ha : XR X F a δ x) (hb : XR X F b δ y) (hr : ∀ H0 H v w (Q : VK), Same H0 H → RepO F.T H0 H x v → RepO F.T H0 H y w → (∀ u, Rep F.T H0 z u → Q u H) → r v w H Q) : XE X F (.BinOp a op b pos) δ z :=
  x_opR (pe_op ho ha hb) hr
theorem x_cmp {op : CmpOp} {r : R2} (ho : OpR X (compareOp op) r) (ha : XR X F a δ x) (hb : XR X F b δ y) (hr : ∀ H0 H v w (Q : VK), Same H0 H → RepO F.T H0 H x v → RepO F.T H0 H y w → (∀ u, Rep F.T H0 z u → Q u H) → r v w H Q)
    (hm : behindInMarks op b = false := by first | exact nomark _ | with_unfolding_all rfl) : XE X F (.Compare a [op] [b] pos) δ z := x_opR (pe_cmpR ho ha hb hm) hr
theorem t_of {t : TE} {p : Bool} (h : PT X e (tTest t)) (hx : ∀ σ H Q, tX F δ (.bl p) σ H Q → t σ H Q) : XT X F e δ p := PT.imp h fun σ H Q ⟨H0, S, k⟩ => hx σ H _ ⟨H0, S, fun v H' H0' g r => ⟨p, rep_bl.mp r, k H' H0' g⟩⟩
theorem t_cmp {op : CmpOp} {r : R2} {p : Bool} (ho : OpR X (compareOp op) r) (ha : XR X F a δ x) (hb : XR X F b δ y) (hr : ∀ H0 H v w (Q : VK), Same H0 H → RepO F.T H0 H x v → RepO F.T H0 H y w → (∀ u, Rep F.T H0 (.bl p) u → Q u H) → r v w H Q)
    (hm : behindInMarks op b = false := by first | exact nomark _ | with_unfolding_all rfl) : XT X F (.Compare a [op] [b] pos) δ p :=
  t_of (pt_cmpR ho ha hb hm) fun σ H Q ⟨H0, S, k⟩ => two (Q := fun v w H' => r v w H' Q) ⟨H0, S, fun v w H' H0' g r1 r2 => hr H0' H' v w Q g.ex r1 r2 fun u ru => k u H' H0' g ru⟩
/-- ints -/
theorem rI0_ok {T : Addr} {H0 H : Hp} {i j : Int} {v w : V} {g : Int → Int → V} {z : D} {Q : VK} (r1 : RepO T H0 H (.int i) v) (r2 : RepO T H0 H (.int j) w) (s : Sc z (g i j)) (k : ∀ u, Rep T H0 z u → Q u H) : rI0 g v w H Q :=
  ⟨i, j, oI r1, oI r2, k _ s.rep⟩
theorem rI_ok {T : Addr} {H0 H : Hp} {i j : Int} {v w : V} {C : Int → Int → Prop} {g : Int → Int → V} {z : D} {Q : VK} (r1 : RepO T H0 H (.int i) v) (r2 : RepO T H0 H (.int j) w) (hc : C i j) (s : Sc z (g i j)) (k : ∀ u, Rep T H0 z u → Q u H) : rI C g v w H Q :=
  ⟨i, j, oI r1, oI r2, hc, k _ s.rep⟩
variable {i j : Int}
theorem x_add (ha : XE X F a δ (.int i)) (hb : XE X F b δ (.int j)) : XE X F (.BinOp a .Add b pos) δ (.int (i + j)) := x_op op_add ha.r hb.r fun _ _ _ _ _ _ r1 r2 k => rI0_ok r1 r2 (.int _) k
theorem x_sub (ha : XE X F a δ (.int i)) (hb : XE X F b δ (.int j)) : XE X F (.BinOp a .Sub b pos) δ (.int (i - j)) := x_op op_sub ha.r hb.r fun _ _ _ _ _ _ r1 r2 k => rI0_ok r1 r2 (.int _) k
theorem x_mul (ha : XE X F a δ (.int i)) (hb : XE X F b δ (.int j)) (hc : CMul i j) : XE X F (.BinOp a .Mult b pos) δ (.int (i * j)) := x_op op_mul ha.r hb.r fun _ _ _ _ _ _ r1 r2 k => rI_ok r1 r2 hc (.int _) k
theorem x_lt (ha : XE X F a δ (.int i)) (hb : XE X F b δ (.int j)) : XE X F (.Compare a [.Lt] [b] pos) δ (.bl (decide (i < j))) := x_cmp op_lt ha.r hb.r fun _ _ _ _ _ _ r1 r2 k => rI0_ok r1 r2 (.bl _) k
theorem x_le (ha : XE X F a δ (.int i)) (hb : XE X F b δ (.int j)) : XE X F (.Compare a [.LtE] [b] pos) δ (.bl (decide (i ≤ j))) := x_cmp op_le ha.r hb.r fun _ _ _ _ _ _ r1 r2 k => rI0_ok r1 r2 (.bl _) k
theorem x_gt (ha : XE X F a δ (.int i)) (hb : XE X F b δ (.int j)) : XE X F (.Compare a [.Gt] [b] pos) δ (.bl (decide (j < i))) := x_cmp op_gt ha.r hb.r fun _ _ _ _ _ _ r1 r2 k => rI0_ok r1 r2 (.bl _) k
theorem x_ge (ha : XE X F a δ (.int i)) (hb : XE X F b δ (.int j)) : XE X F (.Compare a [.GtE] [b] pos) δ (.bl (decide (j ≤ i))) := x_cmp op_ge ha.r hb.r fun _ _ _ _ _ _ r1 r2 k => rI0_ok r1 r2 (.bl _) k
theorem t_lt (ha : XE X F a δ (.int i)) (hb : XE X F b δ (.int j)) : XT X F (.Compare a [.Lt] [b] pos) δ (decide (i < j)) := t_cmp op_lt ha.r hb.r fun _ _ _ _ _ _ r1 r2 k => rI0_ok r1 r2 (.bl _) k
theorem t_le (ha : XE X F a δ (.int i)) (hb : XE X F b δ (.int j)) : XT X F (.Compare a [.LtE] [b] pos) δ (decide (i ≤ j)) := t_cmp op_le ha.r hb.r fun _ _ _ _ _ _ r1 r2 k => rI0_ok r1 r2 (.bl _) k
theorem t_gt (ha : XE X F a δ (.int i)) (hb : XE X F b δ (.int j)) : XT X F (.Compare a [.Gt] [b] pos) δ (decide (j < i)) := t_cmp op_gt ha.r hb.r fun _ _ _ _ _ _ r1 r2 k => rI0_ok r1 r2 (.bl _) k
theorem t_ge (ha : XE X F a δ (.int i)) (hb : XE X F b δ (.int j)) : XT X F (.Compare a [.GtE] [b] pos) δ (decide (j ≤ i)) := t_cmp op_ge ha.r hb.r fun _ _ _ _ _ _ r1 r2 k => rI0_ok r1 r2 (.bl _) k
theorem x_neg (ha : XE X F a δ (.int i)) : XE X F (.UnaryOp .USub a pos) δ (.int (-i)) := PE.imp (pe_un un_neg ha) fun σ H Q ⟨H0, S, k⟩ => ⟨H0, S, fun v H' H0' g r => ⟨i, rep_int.mp r, k _ H' H0' g (rep_int.mpr rfl)⟩⟩
/-- == and != of scalars -/
def scV : D → Option V
  | .non => some .non
  | .bl b => some (.bl b)
  | .int i => some (.int i)
  | .str s => some (.str s)
  | _ => none
theorem scV_rep {T : Addr} {H : Hp} {d : D} {v u : V} (h : scV d = some u) (r : Rep T H d v) : v = u := by
  cases d with
  | non => cases h; exact rep_non.mp r
  | bl b => cases h; exact rep_bl.mp r
  | int i => cases h; exact rep_int.mp r
  | str s => cases h; exact rep_str.mp r
  | _ => cases h
theorem scV_repO {T : Addr} {H0 H : Hp} {d : D} {v u : V} (h : scV d = some u) (r : RepO T H0 H d v) : v = u := by
  cases d with
  | non => cases h; exact oN r
  | bl b => cases h; exact oB r
  | int i => cases h; exact oI r
  | str s => cases h; exact oS r
  | _ => cases h
theorem x_eq {v w : V} (ha : XE X F a δ x) (hb : XE X F b δ y) (hv : scV x = some v := by rfl) (hw : scV y = some w := by rfl) (hs : scal v w = true := by rfl) : XE X F (.Compare a [.Eq] [b] pos) δ (.bl (decide (v = w))) :=
  x_cmp op_eq ha.r hb.r fun _ _ v' w' Q _ r1 r2 k => by rw [scV_repO hv r1, scV_repO hw r2]; exact ⟨hs, k _ (rep_bl.mpr rfl)⟩
theorem x_ne {v w : V} (ha : XE X F a δ x) (hb : XE X F b δ y) (hv : scV x = some v := by rfl) (hw : scV y = some w := by rfl) (hs : scal v w = true := by rfl) : XE X F (.Compare a [.NotEq] [b] pos) δ (.bl (!decide (v = w))) :=
  x_cmp op_ne ha.r hb.r fun _ _ v' w' Q _ r1 r2 k => by rw [scV_repO hv r1, scV_repO hw r2]; exact ⟨hs, k _ (rep_bl.mpr rfl)⟩
theorem t_eq {v w : V} (ha : XE X F a δ x) (hb : XE X F b δ y) (hv : scV x = some v := by rfl) (hw : scV y = some w := by rfl) (hs : scal v w = true := by rfl) : XT X F (.Compare a [.Eq] [b] pos) δ (decide (v = w)) :=
  t_cmp op_eq ha.r hb.r fun _ _ v' w' Q _ r1 r2 k => by rw [scV_repO hv r1, scV_repO hw r2]; exact ⟨hs, k _ (rep_bl.mpr rfl)⟩
theorem t_ne {v w : V} (ha : XE X F a δ x) (hb : XE X F b δ y) (hv : scV x = some v := by rfl) (hw : scV y = some w := by rfl) (hs : scal v w = true := by rfl) : XT X F (.Compare a [.NotEq] [b] pos) δ (!decide (v = w)) :=
  t_cmp op_ne ha.r hb.r fun _ _ v' w' Q _ r1 r2 k => by rw [scV_repO hv r1, scV_repO hw r2]; exact ⟨hs, k _ (rep_bl.mpr rfl)⟩
/-- is None -/
def isNon : D → Bool
  | .non => true
  | _ => false
theorem isNon_repO {T : Addr} {H0 H : Hp} {d : D} {v : V} (r : RepO T H0 H d v) : decide (v = .non) = isNon d := by
  cases d with
  | non => rw [oN r]; rfl
  | bl b => rw [oB r]; rfl
  | int b => rw [oI r]; rfl
  | str b => rw [oS r]; rfl
  | tup ds => obtain ⟨a, vs, rfl, _⟩ := r; rfl
  | lst ds => obtain ⟨a, vs, rfl, _⟩ := r; rfl
  | dk ks ds => obtain ⟨a, vs, rfl, _⟩ := r; rfl
  | ins ds => obtain ⟨a, dx, vs, rfl, _⟩ := rep_ins.mp (show Rep T H0 (.ins ds) v from r); rfl
theorem x_isN {k : Nat} {p2 : Pos} (ha : XE X F a δ x) : XE X F (.Compare a [.Is] [.Constant .none k p2] pos) δ (.bl (isNon x)) :=
  x_cmp op_isN ha.r (x_non (F := F) (δ := δ)).r fun _ _ v' w' Q _ r1 r2 k => ⟨oN r2, k _ (rep_bl.mpr (by rw [isNon_repO r1]))⟩
theorem t_isN {k : Nat} {p2 : Pos} (ha : XE X F a δ x) : XT X F (.Compare a [.Is] [.Constant .none k p2] pos) δ (isNon x) :=
  t_cmp op_isN ha.r (x_non (F := F) (δ := δ)).r fun _ _ v' w' Q _ r1 r2 k => ⟨oN r2, k _ (rep_bl.mpr (by rw [isNon_repO r1]))⟩
theorem x_notN {k : Nat} {p2 : Pos} (ha : XE X F a δ x) : XE X F (.Compare a [.IsNot] [.Constant .none k p2] pos) δ (.bl (!isNon x)) :=
  x_cmp op_notN ha.r (x_non (F := F) (δ := δ)).r fun _ _ v' w' Q _ r1 r2 k => ⟨oN r2, k _ (rep_bl.mpr (by rw [isNon_repO r1]))⟩
theorem t_notN {k : Nat} {p2 : Pos} (ha : XE X F a δ x) : XT X F (.Compare a [.IsNot] [.Constant .none k p2] pos) δ (!isNon x) :=
  t_cmp op_notN ha.r (x_non (F := F) (δ := δ)).r fun _ _ v' w' Q _ r1 r2 k => ⟨oN r2, k _ (rep_bl.mpr (by rw [isNon_repO r1]))⟩
theorem t_isnotB {p q : Bool} (ha : XE X F a δ (.bl p)) (hb : XE X F b δ (.bl q)) : XT X F (.Compare a [.IsNot] [b] pos) δ (!decide (p = q)) :=
  t_cmp op_notBl ha.r hb.r fun _ _ v' w' Q _ r1 r2 k => ⟨p, q, oB r1, oB r2, k _ (rep_bl.mpr rfl)⟩
/-- one sign in a text -/
def sg (c : Nat) : Str := ⟨#[c]⟩
theorem x_inS {ch : Nat} {w : Str} (ha : XE X F a δ (.str (sg ch))) (hb : XE X F b δ (.str w)) (hm : behindInMarks .In b = false := by with_unfolding_all rfl) : XE X F (.Compare a [.In] [b] pos) δ (.bl (decide (ch ∈ w.cps.toList))) :=
  x_cmp op_in_sign ha.r hb.r (fun _ _ v' w' Q _ r1 r2 k => ⟨ch, w, oS r1, oS r2, k _ (rep_bl.mpr rfl)⟩) hm
/-- texts: + and < -/
theorem x_addS {u w : Str} (ha : XE X F a δ (.str u)) (hb : XE X F b δ (.str w)) (hz : u.length + w.length ≤ sizeLine) : XE X F (.BinOp a .Add b pos) δ (.str (u ++ w)) :=
  x_op op_add_str ha.r hb.r fun _ _ v' w' Q _ r1 r2 k => ⟨u, w, oS r1, oS r2, hz, k _ (rep_str.mpr rfl)⟩
theorem x_ltS {u w : Str} (ha : XE X F a δ (.str u)) (hb : XE X F b δ (.str w)) : XE X F (.Compare a [.Lt] [b] pos) δ (.bl (decide (u.cps.toList < w.cps.toList))) :=
  x_cmp op_lt_str ha.r hb.r fun _ _ v' w' Q _ r1 r2 k => ⟨u, w, oS r1, oS r2, k _ (rep_bl.mpr rfl)⟩

/-! ### and, or, not, if -/
theorem pw_never {e : Expr} : PW X e (fun _ _ _ => False) := ⟨fun _ _ _ _ _ _ _ h => h.elim⟩
theorem pe_never {e : Expr} : PE X e (fun _ _ _ => False) := ⟨fun _ _ _ _ _ _ h => h.elim⟩
abbrev XW (X : Cx) (F : Fm) (e : Expr) (δ : List LV) (b : Bool) : Prop := PW X e (tT F δ b)
theorem XW.t {p : Bool} (h : XW X F e δ p) : XT X F e δ p := PW.pt h
theorem w_and1 {p : Bool} (h : XT X F a δ p) : XW X F (.BoolOp .And [a] pos) δ p := pw_and1 h
theorem w_or1 {p : Bool} (h : XT X F a δ p) : XW X F (.BoolOp .Or [a] pos) δ p := pw_or1 h
theorem w_and {p q : Bool} (h : XT X F a δ p) (k : p = true → XW X F (.BoolOp .And (b :: es) pos) δ q) : XW X F (.BoolOp .And (a :: b :: es) pos) δ (p && q) := by
  cases p with
  | true => exact PW.imp (pw_and h (k rfl)) fun σ H Q ⟨H0, S, c⟩ => ⟨H0, S, fun H' H0' g => ⟨H0', S.gr g, fun H'' H0'' g' => c H'' H0'' (g.trans g')⟩⟩
  | false => exact PW.imp (pw_and h pw_never) fun σ H Q ⟨H0, S, c⟩ => ⟨H0, S, fun H' H0' g => c H' H0' g⟩
theorem w_or {p q : Bool} (h : XT X F a δ p) (k : p = false → XW X F (.BoolOp .Or (b :: es) pos) δ q) : XW X F (.BoolOp .Or (a :: b :: es) pos) δ (p || q) := by
  cases p with
  | false => exact PW.imp (pw_or h (k rfl)) fun σ H Q ⟨H0, S, c⟩ => ⟨H0, S, fun H' H0' g => ⟨H0', S.gr g, fun H'' H0'' g' => c H'' H0'' (g.trans g')⟩⟩
  | true => exact PW.imp (pw_or h pw_never) fun σ H Q ⟨H0, S, c⟩ => ⟨H0, S, fun H' H0' g => c H' H0' g⟩
theorem t_not {p : Bool} (h : XT X F a δ p) : XT X F (.UnaryOp .Not a pos) δ (!p) := PT.imp (pt_not h) fun σ H Q ⟨H0, S, c⟩ => ⟨H0, S, c⟩
/-- as values -/
theorem x_one {op : BoolOp} (h : XE X F a δ x) : XE X F (.BoolOp op [a] pos) δ x := pe_one h
theorem x_and {p : Bool} {q : Bool} (h : XE X F a δ (.bl p)) (k : p = true → XE X F (.BoolOp .And (b :: es) pos) δ (.bl q)) : XE X F (.BoolOp .And (a :: b :: es) pos) δ (.bl (p && q)) := by
  cases p with
  | true => exact PE.imp (pe_and h (k rfl)) fun σ H Q ⟨H0, S, c⟩ => ⟨H0, S, fun v H' H0' g r => ⟨true, rep_bl.mp r, H0', S.gr g, fun v H'' H0'' g' => c v H'' H0'' (g.trans g')⟩⟩
  | false => exact PE.imp (pe_and h pe_never) fun σ H Q ⟨H0, S, c⟩ => ⟨H0, S, fun v H' H0' g r => ⟨false, rep_bl.mp r, c _ H' H0' g (rep_bl.mpr rfl)⟩⟩
theorem x_or {p : Bool} {q : Bool} (h : XE X F a δ (.bl p)) (k : p = false → XE X F (.BoolOp .Or (b :: es) pos) δ (.bl q)) : XE X F (.BoolOp .Or (a :: b :: es) pos) δ (.bl (p || q)) := by
  cases p with
  | false => exact PE.imp (pe_or h (k rfl)) fun σ H Q ⟨H0, S, c⟩ => ⟨H0, S, fun v H' H0' g r => ⟨false, rep_bl.mp r, H0', S.gr g, fun v H'' H0'' g' => c v H'' H0'' (g.trans g')⟩⟩
  | true => exact PE.imp (pe_or h pe_never) fun σ H Q ⟨H0, S, c⟩ => ⟨H0, S, fun v H' H0' g r => ⟨true, rep_bl.mp r, c _ H' H0' g (rep_bl.mpr rfl)⟩⟩
theorem x_not {p : Bool} (h : XE X F a δ (.bl p)) : XE X F (.UnaryOp .Not a pos) δ (.bl (!p)) := PE.imp (pe_not h) fun σ H Q ⟨H0, S, c⟩ => ⟨H0, S, fun v H' H0' g r => ⟨p, rep_bl.mp r, c _ H' H0' g (rep_bl.mpr rfl)⟩⟩
theorem x_if {p : Bool} (h : XT X F c δ p) (h1 : p = true → XE X F a δ x) (h2 : p = false → XE X F b δ x) : XE X F (.IfExp c a b pos) δ x := by
  cases p with
  | true => exact PE.imp (pe_ifExp h (h1 rfl) pe_never) fun σ H Q ⟨H0, S, c⟩ => ⟨H0, S, fun H' H0' g => ⟨H0', S.gr g, fun v H'' H0'' g' => c v H'' H0'' (g.trans g')⟩⟩
  | false => exact PE.imp (pe_ifExp h pe_never (h2 rfl)) fun σ H Q ⟨H0, S, c⟩ => ⟨H0, S, fun H' H0' g => ⟨H0', S.gr g, fun v H'' H0'' g' => c v H'' H0'' (g.trans g')⟩⟩
/-- a call or a name whose value is a bool, as a test -/
theorem t_val {p : Bool} (h : XE X F e δ (.bl p)) (he : ∀ whole, isTrue e X.env whole = (do let v ← whole; standAt e.pos; holding [v] (truthy v)) := by intro _; rfl) : XT X F e δ p :=
  PT.imp (pt_val h he) fun σ H Q ⟨H0, S, c⟩ => ⟨H0, S, fun v H' H0' g r => ⟨p, rep_bl.mp r, c H' H0' g⟩⟩

/-! ### argument lists -/
theorem a_nil : XA X F [] δ [] := PA.imp pa_nil fun σ H Q ⟨H0, S, k⟩ => k [] H H0 (Gr.refl S.ex) reps_nil
theorem a_cons {xs : List D} (h : XE X F e δ x) (hr : XA X F es δ xs) (hs : starEach (e :: es) X.env = (false, eval e X.env) :: starEach es X.env := by rfl) : XA X F (e :: es) δ (x :: xs) :=
  PA.imp (pa_cons h hr hs) fun σ H Q ⟨H0, S, k⟩ => ⟨H0, S, fun v H1 H01 g1 r1 => ⟨H01, S.gr g1, fun vs H2 H02 g2 r2 => k _ H2 H02 (g1.trans g2) (reps_cons (Rep.mono g2.s0 _ _ r1) r2)⟩⟩
theorem repsO_nil {T : Addr} {H0 H : Hp} : RepsO T H0 H [] [] := rfl
theorem RepsO.one {T : Addr} {H0 H : Hp} {vs : List V} (h : RepsO T H0 H [x] vs) : ∃ v, vs = [v] ∧ RepO T H0 H x v := by
  obtain ⟨v, r, rfl, h1, h2⟩ := h
  cases (show r = [] from h2)
  exact ⟨v, rfl, h1⟩
theorem RepsO.two {T : Addr} {H0 H : Hp} {vs : List V} (h : RepsO T H0 H [x, y] vs) : ∃ v w, vs = [v, w] ∧ RepO T H0 H x v ∧ RepO T H0 H y w := by
  obtain ⟨v, r, rfl, h1, h2⟩ := h
  obtain ⟨w, rfl, h3⟩ := RepsO.one h2
  exact ⟨v, w, rfl, h1, h3⟩
theorem ar_nil : XAR X F [] δ [] := PA.imp pa_nil fun σ H Q ⟨H0, S, k⟩ => k [] H H0 (Gr.refl S.ex) rfl
theorem ar_cons {xs : List D} (h : XR X F e δ x) (hr : XAR X F es δ xs) (hs : starEach (e :: es) X.env = (false, eval e X.env) :: starEach es X.env := by rfl) : XAR X F (e :: es) δ (x :: xs) :=
  PA.imp (pa_cons h hr hs) fun σ H Q ⟨H0, S, k⟩ => ⟨H0, S, fun v H1 H01 g1 r1 => ⟨H01, S.gr g1, fun vs H2 H02 g2 r2 => k _ H2 H02 (g1.trans g2) ⟨v, vs, rfl, r1.mono g2.s0 g2.s, r2⟩⟩⟩
theorem ar_one (h : XR X F e δ x) (hs : starEach [e] X.env = (false, eval e X.env) :: starEach [] X.env := by rfl) : XAR X F [e] δ [x] := ar_cons h ar_nil hs

/-! ### displays -/
theorem x_tup {xs : List D} {k : Nat} (h : XA X F es δ xs) (hz : xs.length ≤ sizeLine := by show _ ≤ 16777216; simp) : XE X F (.Tuple es k pos) δ (.tup xs) :=
  PE.imp (pe_tup h) fun σ H Q ⟨H0, S, c⟩ => ⟨H0, S, fun vs H1 H01 g r1 => ⟨by rw [r1.length]; exact hz, fun p hp => c (.ref p) _ (upd H01 p (.tup vs)) (g.trans (Gr.new g.ex hp))
    (rep_tup.mpr ⟨p, vs, rfl, upd_same, Reps.mono (same_new (g.ex.free hp)) _ _ r1⟩)⟩⟩
theorem l_lst {xs : List D} (h : XA X F es δ xs) (hz : xs.length ≤ sizeLine := by show _ ≤ 16777216; simp) : XL X F (.List es pos) δ xs :=
  PE.imp (pe_lst h) fun σ H Q ⟨H0, S, c⟩ => ⟨H0, S, fun vs H1 H01 g r1 => ⟨by rw [r1.length]; exact hz, fun p hp => c p vs _ H01 (g.trans (Gr.laid g.ex hp)) (g.s.free hp) (g.ex.free hp) upd_same r1⟩⟩
theorem m_dict0 : XM X F (.Dict [] [] pos) δ [] [] := PE.imp pe_dnewK fun σ H Q ⟨H0, S, c⟩ p hp => c p [] _ H0 (Gr.laid S.ex hp) hp (S.ex.free hp) upd_same rfl reps_nil

/-! ### subscripts -/
theorem x_ixT {xs : List D} (ha : XR X F a δ (.tup xs)) (hb : XE X F b δ (.int i)) (hx : atI xs i = some x) (hs : PlainIx b := by exact fun _ _ => rfl) : XE X F (.Subscript a b pos) δ x :=
  x_opR (pe_ix ix_tup ha hb.r hs) fun H0 H v w Q ex r1 r2 k => by
    obtain ⟨p, vs, rfl, e1, r⟩ := r1
    obtain ⟨j, q1, q2, q3, q4, q5⟩ := atI_get hx
    obtain ⟨u, q6, q7⟩ := r.get q2
    have hl := r.length
    have e2 : atI vs i = some u := by
      unfold atI at hx ⊢
      rw [hl]
      cases q : ixN xs.length i with
      | none => rw [q] at hx; cases hx
      | some j' =>
        rw [q] at hx
        have hj := (ixN_seq q).1
        rw [q1] at hj; cases hj
        exact q6
    exact ⟨p, vs, i, u, rfl, oI r2, SqT.of e1, e2, k u q7⟩
theorem x_ixL {xs : List D} (ha : XR X F a δ (.lst xs)) (hb : XE X F b δ (.int i)) (hx : atI xs i = some x) (hs : PlainIx b := by exact fun _ _ => rfl) : XE X F (.Subscript a b pos) δ x :=
  x_opR (pe_ix ix_list ha hb.r hs) fun H0 H v w Q ex r1 r2 k => by
    obtain ⟨p, vs, rfl, e1, r⟩ := r1
    obtain ⟨j, q1, q2, q3, q4, q5⟩ := atI_get hx
    obtain ⟨u, q6, q7⟩ := r.get q2
    have hl := r.length
    have e2 : atI vs i = some u := by
      unfold atI at hx ⊢
      rw [hl]
      cases q : ixN xs.length i with
      | none => rw [q] at hx; cases hx
      | some j' =>
        rw [q] at hx
        have hj := (ixN_seq q).1
        rw [q1] at hj; cases hj
        exact q6
    exact ⟨p, vs, i, u, rfl, oI r2, SqL.of e1, e2, k u q7⟩
theorem x_ixS {w : Str} {ch : Nat} (ha : XE X F a δ (.str w)) (hb : XE X F b δ (.int i)) (hx : atI w.cps.toList i = some ch) (hz : w.length ≤ sizeLine) (hs : PlainIx b := by exact fun _ _ => rfl) : XE X F (.Subscript a b pos) δ (.str (sg ch)) :=
  x_opR (pe_ix ix_str ha.r hb.r hs) fun H0 H v w' Q ex r1 r2 k => ⟨w, i, ch, oS r1, oI r2, hz, hx, k _ (rep_str.mpr rfl)⟩
/-- d[k] -/
def keyD : D → Option Key
  | .int i => some (.inl i)
  | .str s => some (.inr s)
  | _ => none
theorem keyD_rep {T : Addr} {H0 H : Hp} {d : D} {v : V} {k : Key} (h : keyD d = some k) (r : RepO T H0 H d v) : v = kV k := by
  cases d with
  | int i => cases h; exact oI r
  | str s => cases h; exact oS r
  | _ => cases h
def dGet (kvs : List (Key × D)) (k : Key) : Option D := (kvs.find? fun q => decide (q.1 = k)).map (·.2)
def dHas (ks : List Key) (k : Key) : Bool := ks.any fun q => decide (q = k)
theorem valV_zip {T : Addr} {H : Hp} : ∀ {ks : List Key} {xs : List D} {vs : List V} {k : Key} {x : D}, Reps T H xs vs → ks.length = xs.length → dGet (ks.zip xs) k = some x → ∃ v, valV (ks.zip vs) k = some v ∧ Rep T H x v
  | [], _, _, _, _, _, _, h => by cases h
  | q :: ks, [], _, _, _, _, hl, _ => by simp at hl
  | q :: ks, x :: xs, _, k, y, r, hl, h => by
    obtain ⟨v, vs, rfl, h1, h2⟩ := r.cons_iff
    rw [List.zip_cons_cons] at h ⊢
    unfold dGet at h
    by_cases e : q = k
    · subst e
      rw [List.find?_cons] at h
      simp at h
      subst h
      exact ⟨v, valV_pos rfl, h1⟩
    · rw [List.find?_cons] at h
      simp only [e, decide_false] at h
      obtain ⟨u, e1, e2⟩ := valV_zip h2 (by simpa using hl) h
      exact ⟨u, by rw [valV_neg e]; exact e1, e2⟩
theorem valV_zip0 {T : Addr} {H : Hp} : ∀ {ks : List Key} {xs : List D} {vs : List V} {k : Key}, Reps T H xs vs → ks.length = xs.length → (valV (ks.zip vs) k).isSome = dHas ks k
  | [], _, _, k, _, _ => rfl
  | q :: ks, [], _, _, _, hl => by simp at hl
  | q :: ks, x :: xs, _, k, r, hl => by
    obtain ⟨v, vs, rfl, h1, h2⟩ := r.cons_iff
    rw [List.zip_cons_cons]
    unfold dHas
    rw [List.any_cons]
    by_cases e : q = k
    · subst e
      rw [valV_pos rfl]; simp
    · rw [valV_neg e, valV_zip0 h2 (by simpa using hl)]
      simp only [e, decide_false, Bool.false_or]
      rfl
theorem x_dget {ks : List Key} {xs : List D} {k : Key} (hu : X.A.units + 1 < cLine) (ha : XR X F a δ (.dk ks xs)) (hb : XE X F b δ y) (hk : keyD y = some k) (hx : dGet (ks.zip xs) k = some x) (hs : NoSl b := by exact fun _ _ => rfl) : XE X F (.Subscript a b pos) δ x :=
  PE.imp (pe_dget hu ha hb.r hs) fun σ H Q ⟨H0, S, c⟩ => two (Q := fun x1 y1 H2 => ∃ a v, x1 = .ref a ∧ DGet H2 a y1 (some v) ∧ Q v H2) ⟨H0, S, fun v w H' H0' g r1 r2 => by
    obtain ⟨p, vs, rfl, e1, hl, r⟩ := r1
    have ew := keyD_rep hk r2
    subst ew
    obtain ⟨u, e2, e3⟩ := valV_zip r hl hx
    exact ⟨p, u, rfl, by rw [← e2]; exact DGet.k e1, c u H' H0' g e3⟩⟩
theorem x_din {ks : List Key} {xs : List D} {k : Key} (hu : X.A.units + 1 < cLine) (hb : XE X F b δ y) (ha : XR X F a δ (.dk ks xs)) (hk : keyD y = some k) (h1 : behindInMarks .In a = false := by rfl) : XE X F (.Compare b [.In] [a] pos) δ (.bl (dHas ks k)) :=
  PE.imp (pe_cmp (pc_din hu hb.r ha) h1) fun σ H Q ⟨H0, S, c⟩ => two (Q := fun y1 x1 H2 => ∃ a o, x1 = .ref a ∧ DGet H2 a y1 o ∧ Q (.bl o.isSome) H2) ⟨H0, S, fun w v H' H0' g r2 r1 => by
    obtain ⟨p, vs, rfl, e1, hl, r⟩ := r1
    have ew := keyD_rep hk r2
    subst ew
    exact ⟨p, _, rfl, DGet.k e1, c _ H' H0' g (rep_bl.mpr (by rw [valV_zip0 r hl]))⟩⟩
theorem t_din {ks : List Key} {xs : List D} {k : Key} (hu : X.A.units + 1 < cLine) (hb : XE X F b δ y) (ha : XR X F a δ (.dk ks xs)) (hk : keyD y = some k) (h1 : behindInMarks .In a = false := by rfl) : XT X F (.Compare b [.In] [a] pos) δ (dHas ks k) :=
  PT.imp (pt_cmp (pc_din hu hb.r ha) h1) fun σ H Q ⟨H0, S, c⟩ => two (Q := fun y1 x1 H2 => ∃ a o, x1 = .ref a ∧ DGet H2 a y1 o ∧ ∃ c, V.bl o.isSome = .bl c ∧ Q c H2) ⟨H0, S, fun w v H' H0' g r2 r1 => by
    obtain ⟨p, vs, rfl, e1, hl, r⟩ := r1
    have ew := keyD_rep hk r2
    subst ew
    exact ⟨p, _, rfl, DGet.k e1, _, rfl, by rw [valV_zip0 r hl]; exact c H' H0' g⟩⟩
theorem t_dnotin {ks : List Key} {xs : List D} {k : Key} (hu : X.A.units + 1 < cLine) (hb : XE X F b δ y) (ha : XR X F a δ (.dk ks xs)) (hk : keyD y = some k) (h1 : behindInMarks .NotIn a = false := by rfl) : XT X F (.Compare b [.NotIn] [a] pos) δ (!dHas ks k) :=
  PT.imp (pt_cmp (pc_dnotin hu hb.r ha) h1) fun σ H Q ⟨H0, S, c⟩ => two (Q := fun y1 x1 H2 => ∃ a o, x1 = .ref a ∧ DGet H2 a y1 o ∧ ∃ c, V.bl (!o.isSome) = .bl c ∧ Q c H2) ⟨H0, S, fun w v H' H0' g r2 r1 => by
    obtain ⟨p, vs, rfl, e1, hl, r⟩ := r1
    have ew := keyD_rep hk r2
    subst ew
    exact ⟨p, _, rfl, DGet.k e1, _, rfl, by rw [valV_zip0 r hl]; exact c H' H0' g⟩⟩
/-- n in a list of ints -/
theorem inV_ints {i : Int} : ∀ {ns : List Int}, inV (.int i) (ns.map V.int) = decide (i ∈ ns)
  | [] => by simp [inV]
  | n :: ns => by
    have ih := @inV_ints i ns
    unfold inV at ih ⊢
    rw [List.map_cons, List.any_cons, ih]
    by_cases e : n = i
    · subst e; simp [eqV]
    · have e' : ¬ i = n := fun z => e z.symm
      simp [eqV, e, e']
theorem flat_ints : ∀ {ns : List Int}, (ns.map V.int).all flatV = true
  | [] => rfl
  | n :: ns => by rw [List.map_cons, List.all_cons, flat_ints]; rfl
theorem rIn_ok {K : PySem.W.Frag} {T : Addr} {H0 H : Hp} {i : Int} {ns : List Int} {v w : V} {neg : Bool} {Q : VK} (r1 : RepO T H0 H (.int i) v) (r2 : RepO T H0 H (.lst (ns.map .int)) w ∨ RepO T H0 H (.tup (ns.map .int)) w) (k : Q (.bl (if neg then !decide (i ∈ ns) else decide (i ∈ ns))) H) : rIn K neg v w H Q := by
  rcases r2 with ⟨a, vs, rfl, e, r⟩ | ⟨a, vs, rfl, e, r⟩
  · rw [Reps.ints r] at e
    refine ⟨a, ns.map V.int, rfl, .inl (SqL.of e), by rw [oI r1]; rfl, flat_ints, ?_⟩
    rw [oI r1, inV_ints]
    exact k
  · rw [Reps.ints r] at e
    refine ⟨a, ns.map V.int, rfl, .inr (SqT.of e), by rw [oI r1]; rfl, flat_ints, ?_⟩
    rw [oI r1, inV_ints]
    exact k
variable {ns : List Int}
theorem x_inL (ha : XE X F a δ (.int i)) (hb : XR X F b δ (.lst (ns.map .int))) (hm : behindInMarks .In b = false := by first | rfl | with_unfolding_all rfl) : XE X F (.Compare a [.In] [b] pos) δ (.bl (decide (i ∈ ns))) := x_cmp op_in_seq ha.r hb (fun _ _ v w Q _ r1 r2 k => rIn_ok r1 (.inl r2) (k _ (rep_bl.mpr rfl))) hm
theorem t_inL (ha : XE X F a δ (.int i)) (hb : XR X F b δ (.lst (ns.map .int))) (hm : behindInMarks .In b = false := by first | rfl | with_unfolding_all rfl) : XT X F (.Compare a [.In] [b] pos) δ (decide (i ∈ ns)) := t_cmp op_in_seq ha.r hb (fun _ _ v w Q _ r1 r2 k => rIn_ok r1 (.inl r2) (k _ (rep_bl.mpr rfl))) hm
theorem t_ninL (ha : XE X F a δ (.int i)) (hb : XR X F b δ (.lst (ns.map .int))) (hm : behindInMarks .NotIn b = false := by first | rfl | with_unfolding_all rfl) : XT X F (.Compare a [.NotIn] [b] pos) δ (!decide (i ∈ ns)) := t_cmp op_notIn_seq ha.r hb (fun _ _ v w Q _ r1 r2 k => rIn_ok r1 (.inl r2) (k _ (rep_bl.mpr rfl))) hm
theorem t_inT (ha : XE X F a δ (.int i)) (hb : XR X F b δ (.tup (ns.map .int))) (hm : behindInMarks .In b = false := by first | rfl | with_unfolding_all rfl) : XT X F (.Compare a [.In] [b] pos) δ (decide (i ∈ ns)) := t_cmp op_in_seq ha.r hb (fun _ _ v w Q _ r1 r2 k => rIn_ok r1 (.inr r2) (k _ (rep_bl.mpr rfl))) hm
theorem t_ninT (ha : XE X F a δ (.int i)) (hb : XR X F b δ (.tup (ns.map .int))) (hm : behindInMarks .NotIn b = false := by first | rfl | with_unfolding_all rfl) : XT X F (.Compare a [.NotIn] [b] pos) δ (!decide (i ∈ ns)) := t_cmp op_notIn_seq ha.r hb (fun _ _ v w Q _ r1 r2 k => rIn_ok r1 (.inr r2) (k _ (rep_bl.mpr rfl))) hm
end
end Dl
end
section
set_option Elab.async false
set_option linter.all false
set_option maxRecDepth 100000
set_option maxHeartbeats 2000000
/-! Fields, built-ins, calls, walks, comprehensions. -/
namespace Dl
open PySem PySem.Spec PyProof.Rows L2

section
variable {X : Cx} {F : Fm} {δ : List LV} {a b c e : Expr} {es : List Expr} {x y z : D} {pos p : Pos} {σ : L2.St} {H : Hp}

/-! ### fields -/
theorem zip_look {fs : List Str} {vs : List V} {j : Nat} {f : Str} {v : V} (nd : fs.Nodup) (h1 : fs[j]? = some f) (h2 : vs[j]? = some v) : (fs.zip vs).lookup f = some v := by
  induction fs generalizing vs j with
  | nil => cases h1
  | cons g fs ih =>
    cases vs with
    | nil => cases h2
    | cons u vs =>
      have nd' := List.nodup_cons.mp nd
      rw [List.zip_cons_cons, List.lookup_cons]
      cases j with
      | zero =>
        cases h1
        cases h2
        rw [beq_self_eq_true]
      | succ j =>
        have ne : (f == g) = false := beq_eq_false_iff_ne.mpr fun z => nd'.1 (z ▸ List.mem_of_getElem? (show fs[j]? = some f from h1))
        rw [ne]
        exact ih nd'.2 h1 h2
theorem fields_nodup : fieldNames.Nodup := by decide +kernel
theorem x_fld (j : Nat) {ds : List D} {f : Str} (hc : Cls X.K F.T) (hn : NoAttr X.K F.T f) (he : XE X F e δ (.ins ds)) (hx : ds[j]? = some x := by rfl) (hj : fieldNames[j]? = some f := by rfl) (hb : attributeBase e f X.env (eval e X.env) = eval e X.env := by rfl) : XE X F (.Attribute e f pos) δ x :=
  PE.imp (pe_fld he hb) fun σ H Q ⟨H0, S, k⟩ => ⟨H0, S, fun v H' H0' g r => by
    obtain ⟨q, dx, vs, rfl, e1, hl, rs⟩ := rep_ins.mp r
    obtain ⟨u, e2, e3⟩ := rs.get hx
    exact ⟨q, F.T, dx, _, u, rfl, g.ex _ _ e1, hc, hn, zip_look fields_nodup hj e2, k u H' H0' g e3⟩⟩

/-! ### built-ins -/
theorem x_callB {id : String} {n : Str} {r : List V → Hp → VK → Prop} {ds : List D} (hc : CallR X (.builtin id) r) (hm : X.mg n = none) (hv : bootBuiltins n = some (.builtin id)) (ha : XAR X F (e :: es) δ ds)
    (hr : ∀ H0 H vs (Q : VK), Same H0 H → RepsO F.T H0 H ds vs → (∀ u, Rep F.T H0 z u → Q u H) → r vs H Q) (hg : Gl X n := by rfl) (hn : n ≠ "__name__" := by decide) (hdb : (n == ("__debug__" : Str)) = false := by decide)
    (he : starEach (e :: es) X.env = (false, eval e X.env) :: starEach es X.env := by rfl) (hpl : (backTo pos (starEach es X.env)).any (·.1) = false := by rfl) : XE X F (.Call (.Name n p) (e :: es) [] pos) δ z :=
  PE.imp (pe_callB hc hg hm hv ha hn hdb he hpl) fun σ H Q ⟨H0, S, k⟩ => ⟨H0, S, fun vs H' H0' g rs => hr H0' H' vs Q g.ex rs fun u ru => k u H' H0' g ru⟩
theorem x_callT {id : String} {n : Str} {r : List V → Hp → VK → Prop} {ds : List D} (hc : CallR X (.type id) r) (hm : X.mg n = none) (hv : bootBuiltins n = some (.type id)) (ha : XAR X F (e :: es) δ ds)
    (hr : ∀ H0 H vs (Q : VK), Same H0 H → RepsO F.T H0 H ds vs → (∀ u, Rep F.T H0 z u → Q u H) → r vs H Q) (hg : Gl X n := by rfl) (hn : n ≠ "__name__" := by decide) (hdb : (n == ("__debug__" : Str)) = false := by decide)
    (he : starEach (e :: es) X.env = (false, eval e X.env) :: starEach es X.env := by rfl) (hpl : (backTo pos (starEach es X.env)).any (·.1) = false := by rfl) : XE X F (.Call (.Name n p) (e :: es) [] pos) δ z :=
  PE.imp (pe_callTy hc hg hm hv ha hn hdb he hpl) fun σ H Q ⟨H0, S, k⟩ => ⟨H0, S, fun vs H' H0' g rs => hr H0' H' vs Q g.ex rs fun u ru => k u H' H0' g ru⟩
/-- .. that make one new object -/
theorem x_callTN {id : String} {n : Str} {r : List V → Hp → VK → Prop} {ds : List D} (hc : CallR X (.type id) r) (hm : X.mg n = none) (hv : bootBuiltins n = some (.type id)) (ha : XAR X F (e :: es) δ ds)
    (hr : ∀ H0 H vs (Q : VK), Same H0 H → RepsO F.T H0 H ds vs → (∀ o p, H p = none → Rep F.T (upd H0 p o) z (.ref p) → Q (.ref p) (upd H p o)) → r vs H Q) (hg : Gl X n := by rfl) (hn : n ≠ "__name__" := by decide) (hdb : (n == ("__debug__" : Str)) = false := by decide)
    (he : starEach (e :: es) X.env = (false, eval e X.env) :: starEach es X.env := by rfl) (hpl : (backTo pos (starEach es X.env)).any (·.1) = false := by rfl) : XE X F (.Call (.Name n p) (e :: es) [] pos) δ z :=
  PE.imp (pe_callTy hc hg hm hv ha hn hdb he hpl) fun σ H Q ⟨H0, S, k⟩ => ⟨H0, S, fun vs H' H0' g rs => hr H0' H' vs Q g.ex rs fun o p hp ru => k _ _ (upd H0' p o) (g.trans (Gr.new g.ex hp)) ru⟩
theorem l_callT {id : String} {n : Str} {r : List V → Hp → VK → Prop} {ds zs : List D} (hc : CallR X (.type id) r) (hm : X.mg n = none) (hv : bootBuiltins n = some (.type id)) (ha : XAR X F (e :: es) δ ds)
    (hr : ∀ H0 H vs (Q : VK), Same H0 H → RepsO F.T H0 H ds vs → (∀ p us, H p = none → Reps F.T H0 zs us → Q (.ref p) (upd H p (.lst us))) → r vs H Q) (hg : Gl X n := by rfl) (hn : n ≠ "__name__" := by decide) (hdb : (n == ("__debug__" : Str)) = false := by decide)
    (he : starEach (e :: es) X.env = (false, eval e X.env) :: starEach es X.env := by rfl) (hpl : (backTo pos (starEach es X.env)).any (·.1) = false := by rfl) : XL X F (.Call (.Name n p) (e :: es) [] pos) δ zs :=
  PE.imp (pe_callTy hc hg hm hv ha hn hdb he hpl) fun σ H Q ⟨H0, S, k⟩ => ⟨H0, S, fun vs H' H0' g rs => hr H0' H' vs Q g.ex rs fun p us hp ru => k p us _ H0' (g.trans (Gr.laid g.ex hp)) (g.s.free hp) (g.ex.free hp) upd_same ru⟩
variable {xs : List D}
theorem x_lenL (hm : X.mg "len" = none) (ha : XR X F a δ (.lst xs)) (hg : Gl X "len" := by rfl) (h1 : starEach [a] X.env = (false, eval a X.env) :: starEach [] X.env := by rfl) : XE X F (.Call (.Name "len" p) [a] [] pos) δ (.int xs.length) :=
  x_callB call_len_seq hm PySem.boot_len (ar_one ha h1) (fun H0 H vs Q ex r k => by
    obtain ⟨v, rfl, q, us, rfl, e1, rs⟩ := RepsO.one r
    exact ⟨q, us, rfl, .inl (SqL.of e1), k _ (rep_int.mpr (by rw [rs.length]))⟩) hg (he := h1)
theorem x_lenT (hm : X.mg "len" = none) (ha : XR X F a δ (.tup xs)) (hg : Gl X "len" := by rfl) (h1 : starEach [a] X.env = (false, eval a X.env) :: starEach [] X.env := by rfl) : XE X F (.Call (.Name "len" p) [a] [] pos) δ (.int xs.length) :=
  x_callB call_len_seq hm PySem.boot_len (ar_one ha h1) (fun H0 H vs Q ex r k => by
    obtain ⟨v, rfl, q, us, rfl, e1, rs⟩ := RepsO.one r
    exact ⟨q, us, rfl, .inr (SqT.of e1), k _ (rep_int.mpr (by rw [rs.length]))⟩) hg (he := h1)
theorem x_lenS {s : Str} (hm : X.mg "len" = none) (ha : XE X F a δ (.str s)) (hz : s.length ≤ sizeLine) (hg : Gl X "len" := by rfl) (h1 : starEach [a] X.env = (false, eval a X.env) :: starEach [] X.env := by rfl) : XE X F (.Call (.Name "len" p) [a] [] pos) δ (.int s.length) :=
  x_callB call_len_str hm PySem.boot_len (ar_one ha.r h1) (fun H0 H vs Q ex r k => by
    obtain ⟨v, rfl, q⟩ := RepsO.one r
    exact ⟨s, by rw [oS q], hz, k _ (rep_int.mpr rfl)⟩) hg (he := h1)
theorem x_sum {ns : List Int} (hm : X.mg "sum" = none) (ha : XR X F a δ (.lst (ns.map .int))) (hc : X.calm = true := by rfl) (hg : Gl X "sum" := by rfl) (h1 : starEach [a] X.env = (false, eval a X.env) :: starEach [] X.env := by rfl) : XE X F (.Call (.Name "sum" p) [a] [] pos) δ (.int ns.sum) :=
  x_callB (cr_sum hc) hm (by decide +kernel) (ar_one ha h1) (fun H0 H vs Q ex r k => by
    obtain ⟨v, rfl, q, us, rfl, e1, rs⟩ := RepsO.one r
    rw [Reps.ints rs] at e1
    exact ⟨q, ns, rfl, SqL.of e1, k _ (rep_int.mpr rfl)⟩) hg (he := h1)
theorem x_any {bs : List Bool} (hm : X.mg "any" = none) (ha : XR X F a δ (.lst (bs.map .bl))) (hc : X.calm = true := by rfl) (hg : Gl X "any" := by rfl) (h1 : starEach [a] X.env = (false, eval a X.env) :: starEach [] X.env := by rfl) : XE X F (.Call (.Name "any" p) [a] [] pos) δ (.bl (bs.any id)) :=
  x_callB (cr_any hc) hm (by decide +kernel) (ar_one ha h1) (fun H0 H vs Q ex r k => by
    obtain ⟨v, rfl, q, us, rfl, e1, rs⟩ := RepsO.one r
    rw [Reps.bls rs] at e1
    exact ⟨q, bs, rfl, SqL.of e1, k _ (rep_bl.mpr rfl)⟩) hg (he := h1)
theorem x_all {bs : List Bool} (hm : X.mg "all" = none) (ha : XR X F a δ (.lst (bs.map .bl))) (hc : X.calm = true := by rfl) (hg : Gl X "all" := by rfl) (h1 : starEach [a] X.env = (false, eval a X.env) :: starEach [] X.env := by rfl) : XE X F (.Call (.Name "all" p) [a] [] pos) δ (.bl (bs.all id)) :=
  x_callB (cr_all hc) hm (by decide +kernel) (ar_one ha h1) (fun H0 H vs Q ex r k => by
    obtain ⟨v, rfl, q, us, rfl, e1, rs⟩ := RepsO.one r
    rw [Reps.bls rs] at e1
    exact ⟨q, bs, rfl, SqL.of e1, k _ (rep_bl.mpr rfl)⟩) hg (he := h1)
def mx : List Int → Int
  | [] => 0
  | [n] => n
  | n :: ns => max n (mx ns)
theorem mx_mem : ∀ {ns : List Int}, ns ≠ [] → mx ns ∈ ns
  | [], h => absurd rfl h
  | [n], _ => by simp [mx]
  | n :: m :: ns, _ => by
    have ih := @mx_mem (m :: ns) (by simp)
    show max n (mx (m :: ns)) ∈ _
    rcases Int.le_total n (mx (m :: ns)) with h | h
    · rw [Int.max_eq_right h]; exact List.mem_cons_of_mem _ ih
    · rw [Int.max_eq_left h]; exact List.mem_cons_self
theorem le_mx : ∀ {ns : List Int} {y : Int}, y ∈ ns → y ≤ mx ns
  | [], _, h => by simp at h
  | [n], y, h => by simp at h; subst h; exact Int.le_refl _
  | n :: m :: ns, y, h => by
    show y ≤ max n (mx (m :: ns))
    rcases List.mem_cons.mp h with e | e
    · subst e; exact Int.le_max_left _ _
    · exact Int.le_trans (le_mx e) (Int.le_max_right _ _)
theorem x_max1 {ns : List Int} (hm : X.mg "max" = none) (ha : XR X F a δ (.lst (ns.map .int))) (hne : 0 < ns.length) (hc : X.calm = true := by rfl) (hg : Gl X "max" := by rfl) (h1 : starEach [a] X.env = (false, eval a X.env) :: starEach [] X.env := by rfl) : XE X F (.Call (.Name "max" p) [a] [] pos) δ (.int (mx ns)) :=
  x_callB (cr_max hc) hm (by decide +kernel) (ar_one ha h1) (fun H0 H vs Q ex r k => by
    obtain ⟨v, rfl, q, us, rfl, e1, rs⟩ := RepsO.one r
    rw [Reps.ints rs] at e1
    refine ⟨q, ns, rfl, SqL.of e1, hne, fun m hm hle => ?_⟩
    have : m = mx ns := Int.le_antisymm (le_mx hm) (hle _ (mx_mem (by intro z; rw [z] at hne; simp at hne)))
    rw [this]
    exact k _ (rep_int.mpr rfl)) hg (he := h1)
variable {i j : Int}
theorem x_max2 (hm : X.mg "max" = none) (ha : XE X F a δ (.int i)) (hb : XE X F b δ (.int j)) (hc : X.calm = true := by rfl) (hg : Gl X "max" := by rfl) (h1 : starEach [a, b] X.env = (false, eval a X.env) :: starEach [b] X.env := by rfl) (h2 : starEach [b] X.env = (false, eval b X.env) :: starEach [] X.env := by rfl) (hpl : (backTo pos (starEach [b] X.env)).any (·.1) = false := by rfl) :
    XE X F (.Call (.Name "max" p) [a, b] [] pos) δ (.int (if j > i then j else i)) :=
  x_callB (call_max2 hc) hm (by decide +kernel) (ar_cons ha.r (ar_one hb.r h2) h1) (fun H0 H vs Q ex r k => by
    obtain ⟨v, w, rfl, q1, q2⟩ := RepsO.two r
    exact ⟨i, j, by rw [oI q1, oI q2], k _ (rep_int.mpr rfl)⟩) hg (he := h1) (hpl := hpl)
theorem x_min2 (hm : X.mg "min" = none) (ha : XE X F a δ (.int i)) (hb : XE X F b δ (.int j)) (hc : X.calm = true := by rfl) (hg : Gl X "min" := by rfl) (h1 : starEach [a, b] X.env = (false, eval a X.env) :: starEach [b] X.env := by rfl) (h2 : starEach [b] X.env = (false, eval b X.env) :: starEach [] X.env := by rfl) (hpl : (backTo pos (starEach [b] X.env)).any (·.1) = false := by rfl) :
    XE X F (.Call (.Name "min" p) [a, b] [] pos) δ (.int (if j < i then j else i)) :=
  x_callB (call_min2 hc) hm (by decide +kernel) (ar_cons ha.r (ar_one hb.r h2) h1) (fun H0 H vs Q ex r k => by
    obtain ⟨v, w, rfl, q1, q2⟩ := RepsO.two r
    exact ⟨i, j, by rw [oI q1, oI q2], k _ (rep_int.mpr rfl)⟩) hg (he := h1) (hpl := hpl)
theorem x_intB {q : Bool} (hm : X.mg "int" = none) (ha : XE X F a δ (.bl q)) (hg : Gl X "int" := by rfl) (h1 : starEach [a] X.env = (false, eval a X.env) :: starEach [] X.env := by rfl) : XE X F (.Call (.Name "int" p) [a] [] pos) δ (.int (if q then 1 else 0)) :=
  x_callT call_int1 hm (by decide +kernel) (ar_one ha.r h1) (fun H0 H vs Q ex r k => by
    obtain ⟨v, rfl, q1⟩ := RepsO.one r
    exact .inr ⟨q, by rw [oB q1], k _ (rep_int.mpr rfl)⟩) hg (he := h1)
theorem x_intI (hm : X.mg "int" = none) (ha : XE X F a δ (.int i)) (hg : Gl X "int" := by rfl) (h1 : starEach [a] X.env = (false, eval a X.env) :: starEach [] X.env := by rfl) : XE X F (.Call (.Name "int" p) [a] [] pos) δ (.int i) :=
  x_callT call_int1 hm (by decide +kernel) (ar_one ha.r h1) (fun H0 H vs Q ex r k => by
    obtain ⟨v, rfl, q1⟩ := RepsO.one r
    exact .inl ⟨i, by rw [oI q1], k _ (rep_int.mpr rfl)⟩) hg (he := h1)
theorem l_listL (hm : X.mg "list" = none) (ha : XR X F a δ (.lst xs)) (hg : Gl X "list" := by rfl) (h1 : starEach [a] X.env = (false, eval a X.env) :: starEach [] X.env := by rfl) : XL X F (.Call (.Name "list" p) [a] [] pos) δ xs :=
  l_callT call_list_of hm (by decide +kernel) (ar_one ha h1) (fun H0 H vs Q ex r k => by
    obtain ⟨v, rfl, q, us, rfl, e1, rs⟩ := RepsO.one r
    exact ⟨q, us, rfl, .inl (SqL.of e1), fun l hl => k l us hl rs⟩) hg (he := h1)
theorem x_tupL (hm : X.mg "tuple" = none) (ha : XR X F a δ (.lst xs)) (hg : Gl X "tuple" := by rfl) (h1 : starEach [a] X.env = (false, eval a X.env) :: starEach [] X.env := by rfl) : XE X F (.Call (.Name "tuple" p) [a] [] pos) δ (.tup xs) :=
  x_callTN call_tuple_of hm (by decide +kernel) (ar_one ha h1) (fun H0 H vs Q ex r k => by
    obtain ⟨v, rfl, q, us, rfl, e1, rs⟩ := RepsO.one r
    exact ⟨q, us, rfl, .inl ⟨SqL.of e1, fun l hl => k _ l hl (rep_tup.mpr ⟨l, us, rfl, upd_same, Reps.mono (same_new (ex.free hl)) _ _ rs⟩)⟩⟩) hg (he := h1)
/-- isinstance of a datum -/
def tyD : D → String
  | .non => "NoneType"
  | .bl _ => "bool"
  | .int _ => "int"
  | .str _ => "str"
  | .tup _ => "tuple"
  | .lst _ => "list"
  | .dk _ _ => "dict"
  | .ins _ => "?"
theorem tyOf {K : PySem.W.Frag} {T : Addr} {H0 H : Hp} {v : V} (h : RepO T H0 H x v) (ex : Same H0 H) (ni : ∀ ds, x ≠ .ins ds) : TyX K H v (.type (tyD x)) := by
  cases x with
  | non => rw [oN h]; exact .base .non
  | bl q => rw [oB h]; exact .base (.bl q)
  | int q => rw [oI h]; exact .base (.int q)
  | str q => rw [oS h]; exact .base (.str q)
  | tup ds => obtain ⟨q, vs, rfl, e1, _⟩ := h; exact .base (.tup e1)
  | lst ds => obtain ⟨q, vs, rfl, e1, _⟩ := h; exact .base (.lst e1)
  | dk ks ds => obtain ⟨q, vs, rfl, e1, _⟩ := h; exact .base (.dK e1)
  | ins ds => exact absurd rfl (ni ds)
theorem x_isi {n ty : String} {q : Bool} {nm : Str} {p2 : Pos} (hm : X.mg "isinstance" = none) (ha : XE X F a δ x) (ni : ∀ ds, x ≠ .ins ds) (hm2 : X.mg nm = none) (hv : bootBuiltins nm = some (.type n)) (hk : kitB (tyD x) n = some q)
    (hg : Gl X "isinstance" := by rfl) (hg2 : Gl X nm := by rfl) (hn : nm ≠ "__name__" := by decide) (hdb : (nm == ("__debug__" : Str)) = false := by decide) (h1 : starEach [a, .Name nm p2] X.env = (false, eval a X.env) :: starEach [.Name nm p2] X.env := by rfl) (h2 : starEach [.Name nm p2] X.env = (false, eval (.Name nm p2) X.env) :: starEach [] X.env := by rfl) (hpl : (backTo pos (starEach [.Name nm p2] X.env)).any (·.1) = false := by rfl) :
    XE X F (.Call (.Name "isinstance" p) [a, .Name nm p2] [] pos) δ (.bl q) :=
  PE.imp (pe_callB call_isi hg hm (by decide +kernel) (pa_cons ha.r (pa_cons (pe_bltn (v := .ty n) hg2 hm2 hv rfl hn hdb) pa_nil h2) h1) (by decide) (by decide) h1 hpl) fun σ H Q ⟨H0, S, k⟩ =>
    ⟨H0, S, fun v H' H0' g r => ⟨v, .ty n, .type (tyD x), .type n, q, rfl, .ty n, tyOf r g.ex ni, kit_ty hk, k _ H' H0' g (rep_bl.mpr rfl)⟩⟩

/-! ### sequences joined, repeated, cut -/
theorem x_catT {ys : List D} (ha : XE X F a δ (.tup xs)) (hb : XE X F b δ (.tup ys)) (hx : xs ≠ []) (hy : ys ≠ []) (hz : xs.length + ys.length ≤ sizeLine) : XE X F (.BinOp a .Add b pos) δ (.tup (xs ++ ys)) :=
  PE.imp (pe_op op_catT ha.r hb.r) fun σ H Q ⟨H0, S, k⟩ => two (Q := fun v w H' => rCatT X.K v w H' Q) ⟨H0, S, fun v w H' H0' g r1 r2 => by
    obtain ⟨q1, vs, rfl, e1, rs1⟩ := r1
    obtain ⟨q2, us, rfl, e2, rs2⟩ := r2
    have l1 := rs1.length
    have l2 := rs2.length
    refine ⟨q1, q2, vs, us, rfl, rfl, SqT.of e1, SqT.of e2, fun ev => hx (List.eq_nil_of_length_eq_zero (by rw [← l1, ev]; rfl)), by omega, fun eu => absurd (List.eq_nil_of_length_eq_zero (by rw [← l2, eu]; rfl)) hy, fun _ l hl => ?_⟩
    exact k _ _ (upd H0' l _) (g.trans (Gr.new g.ex hl)) (rep_tup.mpr ⟨l, vs ++ us, rfl, upd_same, Reps.mono (same_new (g.ex.free hl)) _ _ (rs1.append rs2)⟩)⟩
theorem l_catL {ys : List D} (ha : XR X F a δ (.lst xs)) (hb : XR X F b δ (.lst ys)) (hz : xs.length + ys.length ≤ sizeLine) : XL X F (.BinOp a .Add b pos) δ (xs ++ ys) :=
  PE.imp (pe_op op_cat ha hb) fun σ H Q ⟨H0, S, k⟩ => two (Q := fun v w H' => rCat v w H' Q) ⟨H0, S, fun v w H' H0' g r1 r2 => by
    obtain ⟨q1, vs, rfl, e1, rs1⟩ := r1
    obtain ⟨q2, us, rfl, e2, rs2⟩ := r2
    have l1 := rs1.length
    have l2 := rs2.length
    exact ⟨q1, q2, vs, us, rfl, rfl, e1, e2, by omega, fun l hl => k l _ _ H0' (g.trans (Gr.laid g.ex hl)) (g.s.free hl) (g.ex.free hl) upd_same (rs1.append rs2)⟩⟩
theorem Reps.rep {T : Addr} {H : Hp} {vs : List V} (h : Reps T H xs vs) : ∀ k : Nat, Reps T H (List.replicate k xs).flatten (List.replicate k vs).flatten
  | 0 => reps_nil
  | k + 1 => by rw [List.replicate_succ, List.replicate_succ, List.flatten_cons, List.flatten_cons]; exact h.append (Reps.rep h k)
theorem l_repL {n : Int} (ha : XR X F a δ (.lst xs)) (hb : XE X F b δ (.int n)) (h0 : 0 ≤ n) (h1 : n ≤ 1000) (hz : xs.length ≤ 1000) : XL X F (.BinOp a .Mult b pos) δ (List.replicate n.toNat xs).flatten :=
  PE.imp (pe_op op_rep ha hb.r) fun σ H Q ⟨H0, S, k⟩ => two (Q := fun v w H' => rRep v w H' Q) ⟨H0, S, fun v w H' H0' g r1 r2 => by
    obtain ⟨q1, vs, rfl, e1, rs1⟩ := r1
    have l1 := rs1.length
    refine ⟨q1, n, vs, rfl, oI r2, e1, by omega, by omega, ?_, fun l hl => k l _ _ H0' (g.trans (Gr.laid g.ex hl)) (g.s.free hl) (g.ex.free hl) upd_same (rs1.rep _)⟩
    have : vs.length * n.toNat ≤ 1000 * 1000 := Nat.mul_le_mul (by omega) (by omega)
    exact Nat.le_trans this (by decide)⟩
end

/-! ### calls of the program's own defs -/
def FSp (T : Addr) (pre : List D → D → Prop) : Sp := fun vs H Q _ => ∃ Z ds x, Same Z H ∧ Reps T Z ds vs ∧ pre ds x ∧ ∀ v H' Z', Same H H' → Same Z Z' → Same Z' H' → New Z Z' H → Rep T Z' x v → Q v H'
/-- a def of the text keeps its promise, and is found by its name -/
def Fn (P : Program) (w : World) (K : PySem.W.Frag) (mg : Str → Option Value) (base : Heap) (n : Str) (k : Nat) (ps : List Str) (sp : Sp) : Prop :=
  ∃ f fd, mg n = some (.ref f) ∧ PySem.W.keepIn K (.ref f) = true ∧ Binds K fd ps [] ∧ FnOk P w K mg base CX0 k f fd ps sp
section
variable {X : Cx} {F : Fm} {δ : List LV} {a b c e o : Expr} {es : List Expr} {x y z : D} {pos p apos : Pos} {σ : L2.St} {H : Hp} {k : Nat} {n : Str} {ps : List Str} {pre : List D → D → Prop} {ds : List D}
theorem call_ok {T : Addr} {E : XK} {H0 : Hp} {vs : List V} {Q : VK} (hT : T = F.T) (S : SRep F H0 σ H δ) (r : Reps F.T H0 ds vs) (hp : pre ds x) (k : ∀ v H' H0', Gr H0 H H0' H' → Rep F.T H0' x v → Q v H') : FSp T pre vs H Q E := by
  subst hT
  exact ⟨H0, ds, x, S.ex, r, hp, fun v H' Z' s s0 ex nw rv => k v H' Z' ⟨s, s0, ex, nw⟩ rv⟩
theorem x_call (G : Fn X.prog X.w X.K X.mg X.base n k ps (FSp F.T pre)) (hr : Room k X.A) (ha : XA X F (e :: es) δ ds) (hp : pre ds x) (hg : Gl X n := by rfl) (hdb : (n == ("__debug__" : Str)) = false := by decide)
    (he : starEach (e :: es) X.env = (false, eval e X.env) :: starEach es X.env := by rfl) (hpl : (backTo pos (starEach es X.env)).any (·.1) = false := by rfl) : XE X F (.Call (.Name n p) (e :: es) [] pos) δ x := by
  obtain ⟨f, fd, hm, hk, hb, hF⟩ := G
  refine PE.imp (pe_call hF hr hg hm hk hb .nil (E := E0) pass0 ha hdb he hpl) fun σ H Q ⟨H0, S, c⟩ => ⟨H0, S, fun vs H1 H01 g1 r1 => ?_⟩
  show FSp F.T pre (vs ++ []) H1 Q E0
  rw [List.append_nil]
  exact call_ok rfl (S.gr g1) r1 hp fun v H' H0' g r => c v H' H0' (g1.trans g) r
/-- a method of the class -/
def Me (P : Program) (w : World) (K : PySem.W.Frag) (mg : Str → Option Value) (base : Heap) (C : Addr) (m : Str) (k : Nat) (ps : List Str) (sp : Sp) : Prop :=
  ∃ f fd, Meth K C m f ∧ Binds K fd ps [] ∧ FnOk P w K mg base CX0 k f fd ps sp
theorem nolook : ∀ {fs : List Str} {vs : List V} {m : Str}, m ∉ fs → (fs.zip vs).lookup m = none
  | [], _, _, _ => rfl
  | _ :: _, [], _, _ => rfl
  | g :: fs, v :: vs, m, h => by
    have ne : (m == g) = false := by
      have : m ≠ g := fun z => h (z ▸ List.mem_cons_self)
      simpa using this
    rw [List.zip_cons_cons, List.lookup_cons, ne]
    exact nolook fun z => h (List.mem_cons_of_mem _ z)
theorem x_meth {pl : Sem Bool} {m : Str} {fl : List D} (G : Me X.prog X.w X.K X.mg X.base F.T m k ps (FSp F.T pre)) (hr : Room k X.A) (hc : Cls X.K F.T) (hm : m ∉ fieldNames) (ho : XE X F o δ (.ins fl)) (ha : XA X F (e :: es) δ ds) (hp : pre (.ins fl :: ds) x)
    (hst : starEach (e :: es) X.env = (false, eval e X.env) :: starEach es X.env := by rfl) (hpl : (backTo pos (starEach es X.env)).any (·.1) = false := by rfl)
    (ht : eval (.Call (.Attribute o m apos) (e :: es) [] pos) X.env = (do
      let ov ← eval o X.env
      standAt apos.atName
      let (f, first) ← holding [ov] (getMethod ov m pl)
      callWith pos f first (backTo pos (starEach (e :: es) X.env)) (backToKw pos (keywordEach [] X.env))) := by rfl) :
    XE X F (.Call (.Attribute o m apos) (e :: es) [] pos) δ x := by
  obtain ⟨f, fd, hM, hb, hF⟩ := G
  refine PE.imp (pe_meth ho hc hM hF hr hb .nil (E := E0) pass0 ha hst hpl ht) fun σ H Q ⟨H0, S, c⟩ => ⟨H0, S, fun v H1 H01 g1 r1 => ?_⟩
  obtain ⟨q, dx, vs, rfl, e1, hl, rs⟩ := rep_ins.mp r1
  refine ⟨q, dx, _, rfl, g1.ex _ _ e1, nolook hm, H01, S.gr g1, fun us H2 H02 g2 r2 => ?_⟩
  show FSp F.T pre (.ref q :: (us ++ [])) H2 Q E0
  rw [List.append_nil]
  exact call_ok rfl ((S.gr g1).gr g2) (reps_cons (Rep.mono g2.s0 _ _ r1) r2) hp fun v H' H0' g r => c v H' H0' ((g1.trans g2).trans g) r
end
end Dl
end
section
set_option Elab.async false
set_option linter.all false
set_option maxRecDepth 100000
set_option maxHeartbeats 2000000
/-! Walks, targets, comprehensions. -/
namespace Dl
open PySem PySem.Spec PyProof.Rows L2

/-- the iterator J yields the data xs, one a turn, as long as H0 stands -/
def Yld (T : Addr) (J : It) (H0 : Hp) (xs : List D) : Prop := ∀ (i : Nat) (H : Hp), Same H0 H →
  (i < xs.length → J.go i H ∧ ∀ v H', J.yld i H v H' → ∀ x, xs[i]? = some x → (H' = H ∧ Rep T H0 x v) ∨ ∃ p vs ds, x = .tup ds ∧ v = .ref p ∧ H p = none ∧ H' = upd H p (.tup vs) ∧ Reps T H0 ds vs) ∧ (i = xs.length → J.stop i H)
def tI (F : Fm) (δ : List LV) (xs : List D) : TI := fun σ H R => ∃ H0, SRep F H0 σ H δ ∧ ∀ J H' H0', Gr H0 H H0' H' → Yld F.T J H0' xs → R J H'
abbrev XI (X : Cx) (F : Fm) (tg e : Expr) (δ : List LV) (xs : List D) : Prop := PI X tg e (tI F δ xs)
theorem Yld.mono {T : Addr} {J : It} {H0 H0' : Hp} {xs : List D} (h : Yld T J H0 xs) (s : Same H0 H0') : Yld T J H0' xs := fun i H sH => by
  obtain ⟨h1, h2⟩ := h i H (s.trans sH)
  refine ⟨fun hi => ?_, h2⟩
  obtain ⟨g, y⟩ := h1 hi
  refine ⟨g, fun v H' hy x hx => ?_⟩
  rcases y v H' hy x hx with ⟨e, r⟩ | ⟨p, vs, ds, e1, e2, e3, e4, r⟩
  · exact .inl ⟨e, Rep.mono s _ _ r⟩
  · exact .inr ⟨p, vs, ds, e1, e2, e3, e4, Reps.mono s _ _ r⟩
section
variable {X : Cx} {F : Fm} {δ : List LV} {a b c e o tg : Expr} {es : List Expr} {x y z : D} {pos p : Pos} {σ : L2.St} {H : Hp} {xs : List D}
theorem yld_list {T : Addr} {K : PySem.W.Frag} {H0 : Hp} {q : Addr} {vs : List V} (e1 : H0 q = some (.lst vs)) (r : Reps T H0 xs vs) : Yld T (Itl K q) H0 xs := fun i H s => by
  have l := r.length
  have hq : SqL K H q vs := SqL.of (s _ _ e1)
  refine ⟨fun hi => ⟨⟨vs, vs[i]'(by omega), hq, List.getElem?_eq_getElem (by omega)⟩, fun v H' hy x hx => ?_⟩, fun hi => ⟨vs, hq, by omega⟩⟩
  obtain ⟨rfl, hv⟩ := hy
  obtain ⟨u, e2, ru⟩ := r.get hx
  have := hv vs hq
  rw [e2] at this; cases this
  exact .inl ⟨rfl, ru⟩
theorem yld_tup {T : Addr} {K : PySem.W.Frag} {H0 : Hp} {q : Addr} {vs : List V} (e1 : H0 q = some (.tup vs)) (r : Reps T H0 xs vs) : Yld T (Itt K q) H0 xs := fun i H s => by
  have l := r.length
  have hq : SqT K H q vs := SqT.of (s _ _ e1)
  refine ⟨fun hi => ⟨⟨vs, vs[i]'(by omega), hq, List.getElem?_eq_getElem (by omega)⟩, fun v H' hy x hx => ?_⟩, fun hi => ⟨vs, hq, by omega⟩⟩
  obtain ⟨rfl, hv⟩ := hy
  obtain ⟨u, e2, ru⟩ := r.get hx
  have := hv vs hq
  rw [e2] at this; cases this
  exact .inl ⟨rfl, ru⟩
theorem i_list (h : XE X F e δ (.lst xs)) : XI X F tg e δ xs := PI.imp (pi_list h) fun σ H R ⟨H0, S, k⟩ => ⟨H0, S, fun v H' H0' g r => by
  obtain ⟨q, vs, rfl, e1, rs⟩ := rep_lst.mp r
  exact ⟨q, rfl, ⟨vs, SqL.of (g.ex _ _ e1)⟩, k _ H' H0' g (yld_list e1 rs)⟩⟩
theorem i_tup (h : XE X F e δ (.tup xs)) : XI X F tg e δ xs := PI.imp (pi_tup h) fun σ H R ⟨H0, S, k⟩ => ⟨H0, S, fun v H' H0' g r => by
  obtain ⟨q, vs, rfl, e1, rs⟩ := rep_tup.mp r
  exact ⟨q, rfl, ⟨vs, SqT.of (g.ex _ _ e1)⟩, k _ H' H0' g (yld_tup e1 rs)⟩⟩
def signs (s : Str) : List D := s.cps.toList.map fun c => .str (sg c)
theorem i_str {s : Str} (h : XE X F e δ (.str s)) : XI X F tg e δ (signs s) := PI.imp (pi_str h) fun σ H R ⟨H0, S, k⟩ => ⟨H0, S, fun v H' H0' g r => by
  refine ⟨s, rep_str.mp r, k _ H' H0' g fun i H'' s2 => ?_⟩
  have l : (signs s).length = s.cps.size := by unfold signs; simp
  refine ⟨fun hi => ⟨show i < s.cps.size by omega, fun v H3 hy x hx => ?_⟩, fun hi => show s.cps.size ≤ i by omega⟩
  obtain ⟨rfl, c, hc, rfl⟩ := hy
  unfold signs at hx
  rw [List.getElem?_map] at hx
  have : s.cps.toList[i]? = some c := by simpa using hc
  rw [this] at hx
  cases hx
  exact .inl ⟨rfl, rep_str.mpr rfl⟩⟩
def upto (n : Int) : List D := (List.range n.toNat).map fun (k : Nat) => D.int (k : Int)
theorem i_range {n : Int} (hm : X.mg "range" = none) (h : XE X F e δ (.int n)) (h0 : 0 ≤ n) (h1 : n ≤ 1000000) (hg : Gl X "range" := by rfl) (hs : starEach [e] X.env = [(false, eval e X.env)] := by rfl) : XI X F tg (.Call (.Name "range" p) [e] [] pos) δ (upto n) :=
  PI.imp (pi_range1 hg hm (a_cons h a_nil hs) hs) fun σ H R ⟨H0, S, k⟩ => ⟨H0, S, fun vs H' H0' g r => by
    obtain ⟨v, rfl, r1⟩ := r.one
    refine ⟨n, by rw [rep_int.mp r1], by omega, by omega, k _ H' H0' g fun i H'' s2 => ?_⟩
    have l : (upto n).length = n.toNat := by unfold upto; simp
    refine ⟨fun hi => ⟨show i < n.toNat by omega, fun v H3 hy x hx => ?_⟩, fun hi => show n.toNat ≤ i by omega⟩
    obtain ⟨rfl, rfl⟩ := hy
    unfold upto at hx
    rw [List.getElem?_map, List.getElem?_range (by omega)] at hx
    cases hx
    exact .inl ⟨rfl, rep_int.mpr (by simp)⟩⟩
theorem i_rangeN {n : Nat} (hm : X.mg "range" = none) (h : XE X F e δ (.int (n : Int))) (h1 : n ≤ 1000000) (hg : Gl X "range" := by rfl) (hs : starEach [e] X.env = [(false, eval e X.env)] := by rfl) : XI X F tg (.Call (.Name "range" p) [e] [] pos) δ ((List.range n).map fun (k : Nat) => D.int (k : Int)) :=
  i_range hm h (by omega) (by omega) hg hs

/-! ### targets -/
inductive Tgt where
  | one (i : Nat)
  | tup (is : List Nat)
def setAll : List Nat → List D → List LV → List LV
  | i :: is, x :: xs, δ => setAll is xs (δ.set i (.d x))
  | _, _, δ => δ
def setS : List Nat → List V → L2.St → L2.St
  | i :: is, x :: xs, δ => setS is xs (δ.set i (some x))
  | _, _, δ => δ
def Tgt.slots : Tgt → List Nat
  | .one i => [i]
  | .tup is => is
def Tgt.asg : Tgt → D → List LV → Option (List LV)
  | .one i, x, δ => some (δ.set i (.d x))
  | .tup is, .tup xs, δ => if xs.length = is.length then some (setAll is xs δ) else none
  | _, _, _ => none
def tG (F : Fm) (is : List Nat) (δ : List LV) (x : D) (δ' : List LV) : TG := fun v σ H Q => ∃ H0, SRep F H0 σ H δ ∧ Rep F.T H0 x v ∧ ∀ us, SRep F H0 (setS is us σ) H δ' → Q (setS is us σ) H
abbrev XG (X : Cx) (F : Fm) (tg : Expr) (t : Tgt) : Prop := ∀ δ x δ', t.asg x δ = some δ' → PG X tg (tG F t.slots δ x δ')
theorem PG.imp {X : Cx} {tg : Expr} {t t' : TG} (h : PG X tg t) (f : ∀ v σ H Q, t' v σ H Q → t v σ H Q) : PG X tg t' := ⟨fun pins s σ H v u Q I r q => h.run pins s σ H v u Q I r (f v σ H Q q)⟩
theorem PGs.imp {X : Cx} {ts : List Expr} {t t' : TGs} (h : PGs X ts t) (f : ∀ v σ H Q, t' v σ H Q → t v σ H Q) : PGs X ts t' := ⟨fun pins s σ H v u Q I r q => h.run pins s σ H v u Q I r (f v σ H Q q)⟩
theorem g_name (i : Nat) {n : Str} (hN : X.N.Nodup) (hi : X.N[i]? = some n := by rfl) (hx : Loc X.env.scope n := by first | exact Or.inl rfl | exact Or.inr rfl) (hf : X.fn n = true ∨ X.env.scope.names.lookup n = some .local := by first | exact .inl rfl | exact .inr rfl) : XG X F (.Name n pos) (.one i) := fun δ x δ' h => by
  cases h
  exact PG.imp (pg_name hN hi hx hf) fun v σ H Q ⟨H0, S, r, k⟩ => k [v] (S.set i r)
/-- several names -/
def tGs (F : Fm) (is : List Nat) (xs : List D) : TGs := fun vs σ H Q => xs.length = is.length ∧ ∃ H0 δ, SRep F H0 σ H δ ∧ Reps F.T H0 xs vs ∧ ∀ us, SRep F H0 (setS is us σ) H (setAll is xs δ) → Q (setS is us σ) H
abbrev XGs (X : Cx) (F : Fm) (ts : List Expr) (is : List Nat) : Prop := ∀ xs, PGs X ts (tGs F is xs)
theorem gs_nil : XGs X F [] [] := fun xs => PGs.imp pgs_nil fun vs σ H Q ⟨hl, H0, δ, S, r, k⟩ => by
  cases xs with
  | nil => exact ⟨r.nil_iff, k [] S⟩
  | cons _ _ => cases hl
theorem gs_cons (i : Nat) {n : Str} {ts : List Expr} {is : List Nat} (h : XGs X F ts is) (hN : X.N.Nodup) (hi : X.N[i]? = some n := by rfl) (hx : Loc X.env.scope n := by first | exact Or.inl rfl | exact Or.inr rfl) (hf : X.fn n = true ∨ X.env.scope.names.lookup n = some .local := by first | exact .inl rfl | exact .inr rfl)
    (hs : (assignEach (.Name n pos :: ts) X.env).map (·.2) = assign (.Name n pos) X.env :: (assignEach ts X.env).map (·.2) := by rfl) : XGs X F (.Name n pos :: ts) (i :: is) := fun xs => by
  cases xs with
  | nil => exact ⟨fun _ _ _ _ _ _ _ _ _ h => by cases h.1⟩
  | cons x xs =>
    refine PGs.imp (pgs_cons (pg_name hN hi hx hf) (h xs) hs) fun vs σ H Q ⟨hl, H0, δ, S, r, k⟩ => ?_
    obtain ⟨v, vr, rfl, h1, h2⟩ := r.cons_iff
    refine ⟨v, vr, rfl, ?_⟩
    exact ⟨by simpa using hl, H0, δ.set i (.d x), S.set i h1, h2, fun us S' => k (v :: us) S'⟩
theorem g_tup {ts : List Expr} {is : List Nat} {kk : Nat} (h : XGs X F ts is) (hc : X.calm = true := by rfl) (hn : (assignEach ts X.env).length = is.length := by rfl) (hst : (assignEach ts X.env).findIdx? (·.1) = none := by rfl) : XG X F (.Tuple ts kk pos) (.tup is) := fun δ x δ' ha => by
  cases x with
  | tup xs =>
    have ha : (if xs.length = is.length then some (setAll is xs δ) else none) = some δ' := ha
    by_cases hl : xs.length = is.length
    · rw [if_pos hl] at ha
      cases ha
      refine PG.imp (pg_tup hc (h xs) hn hst) fun v σ H Q ⟨H0, S, r, k⟩ => ?_
      obtain ⟨q, vs, rfl, e1, rs⟩ := rep_tup.mp r
      exact ⟨q, vs, rfl, SqT.of (S.ex _ _ e1), by rw [rs.length]; exact hl, hl, H0, δ, S, rs, fun us S' => k us S'⟩
    · rw [if_neg hl] at ha
      cases ha
  | _ => cases ha

/-! ### comprehensions -/
theorem setS_len : ∀ {is : List Nat} {us : List V} {σ : L2.St}, (setS is us σ).length = σ.length
  | [], _, _ => rfl
  | _ :: _, [], _ => rfl
  | i :: is, u :: us, σ => by
    show (setS is us (σ.set i (some u))).length = _
    rw [setS_len, List.length_set]
theorem setS_out {j : Nat} : ∀ {is : List Nat} {us : List V} {σ : L2.St}, j ∉ is → (setS is us σ)[j]? = σ[j]?
  | [], _, _, _ => rfl
  | _ :: _, [], _, _ => rfl
  | i :: is, u :: us, σ, h => by
    show (setS is us (σ.set i (some u)))[j]? = _
    rw [setS_out fun z => h (List.mem_cons_of_mem _ z), List.getElem?_set_ne fun z => h (by rw [z]; exact List.mem_cons_self)]
theorem wipe_in {σ : L2.St} {j : Nat} : ∀ {vs : List Nat}, j ∈ vs → j < σ.length → (wipe σ vs)[j]? = some none
  | [], h, _ => by simp at h
  | v :: vs, h, hl => by
    unfold wipe
    by_cases q : v = j
    · subst q
      rw [List.getElem?_set_self (by rw [wipe_length]; exact hl)]
    · rw [List.getElem?_set_ne q]
      exact wipe_in (by rcases List.mem_cons.mp h with z | z; exact absurd z.symm q; exact z) hl
theorem wipe_setS {is : List Nat} {us : List V} {σ : L2.St} {vs : List Nat} (h : ∀ i ∈ is, i ∈ vs) : wipe (setS is us (wipe σ vs)) vs = wipe σ vs := by
  apply List.ext_getElem?
  intro j
  by_cases q : j ∈ vs
  · by_cases l : j < σ.length
    · rw [wipe_in q (by rw [setS_len, wipe_length]; exact l), wipe_in q l]
    · rw [List.getElem?_eq_none (by rw [wipe_length, setS_len, wipe_length]; omega), List.getElem?_eq_none (by rw [wipe_length]; omega)]
  · rw [wipe_out q, setS_out fun z => q (h j z)]
def unAll (δ : List LV) : List Nat → Bool
  | [] => true
  | i :: is => (match δ[i]? with | some .un => true | _ => false) && unAll δ is
theorem unAll_at {δ : List LV} : ∀ {is : List Nat} {i : Nat}, unAll δ is = true → i ∈ is → δ[i]? = some .un
  | j :: is, i, h, hi => by
    unfold unAll at h
    rw [Bool.and_eq_true] at h
    rcases List.mem_cons.mp hi with z | z
    · subst z
      cases q : δ[i]? with
      | none => rw [q] at h; cases h.1
      | some l =>
        rw [q] at h
        cases l <;> first | rfl | cases h.1
    · exact unAll_at h.2 z
theorem SRep.wiped {H0 : Hp} {vs : List Nat} (S : SRep F H0 σ H δ) (h : unAll δ vs = true) : SRep F H0 (wipe σ vs) H δ := S.slots (wipe_length _ _) fun i l hi hl => wipe_out fun z => by
  rw [unAll_at h z] at hi
  cases hi
  exact hl rfl
theorem SRep.unwiped {H0 : Hp} {vs : List Nat} (S : SRep F H0 (wipe σ vs) H δ) (h : unAll δ vs = true) : SRep F H0 σ H δ := S.slots (wipe_length _ _).symm fun i l hi hl => (wipe_out fun z => by
  rw [unAll_at h z] at hi
  cases hi
  exact hl rfl).symm
/-- an element's reading, whatever datum it is -/
def tAnyE (X : Cx) (F : Fm) (e : Expr) (scope : Scope) : TE := fun σ H Q => ∃ δ x, (∀ (s : Shared) (H : Hp) (C : Addr) (cl : List (Str × Addr)) (fp : List Addr), PE (X.blk s H scope (compEnvC scope cl C X.env) fp) e (tX F δ x)) ∧ tX F δ x σ H Q
def tAnyT (X : Cx) (F : Fm) (ifs : List Expr) (scope : Scope) : TT := fun σ H Q => ∃ δ p, (∀ (s : Shared) (H : Hp) (C : Addr) (cl : List (Str × Addr)) (fp : List Addr), PTs (X.blk s H scope (compEnvC scope cl C X.env) fp) ifs (tT F δ p)) ∧ tT F δ p σ H Q
def tAnyG (X : Cx) (F : Fm) (tg : Expr) (scope : Scope) : TG := fun v σ H Q => ∃ is δ x δ', (∀ (s : Shared) (H : Hp) (C : Addr) (cl : List (Str × Addr)) (fp : List Addr), PG (X.blk s H scope (compEnvC scope cl C X.env) fp) tg (tG F is δ x δ')) ∧ tG F is δ x δ' v σ H Q
theorem pts_tests {ifs : List Expr} {p : Bool} (h : (ifs = [] ∧ p = true) ∨ ∃ c, ifs = [c] ∧ XT X F c δ p) : PTs X ifs (tT F δ p) := by
  rcases h with ⟨rfl, rfl⟩ | ⟨c, rfl, h⟩
  · exact ⟨fun pins s σ H Q I ⟨H0, S, k⟩ => pts_nil.run pins s σ H Q I (k H H0 (Gr.refl S.ex))⟩
  · exact pts_one h
abbrev XTs (X : Cx) (F : Fm) (ifs : List Expr) (δ : List LV) (p : Bool) : Prop := PTs X ifs (tT F δ p)
theorem ts_nil : XTs X F [] δ true := pts_tests (.inl ⟨rfl, rfl⟩)
theorem ts_one {c : Expr} {p : Bool} (h : XT X F c δ p) : XTs X F [c] δ p := pts_tests (.inr ⟨c, rfl, h⟩)
/-- what a target says nothing of stays as it was -/
theorem setAll_out {j : Nat} : ∀ {is : List Nat} {xs : List D} {δ : List LV}, j ∉ is → (setAll is xs δ)[j]? = δ[j]?
  | [], _, _, _ => rfl
  | _ :: _, [], _, _ => rfl
  | i :: is, u :: us, σ, h => by
    show (setAll is us (σ.set i (.d u)))[j]? = _
    rw [setAll_out fun z => h (List.mem_cons_of_mem _ z), List.getElem?_set_ne fun z => h (by rw [z]; exact List.mem_cons_self)]
theorem setAll_len : ∀ {is : List Nat} {us : List D} {σ : List LV}, (setAll is us σ).length = σ.length
  | [], _, _ => rfl
  | _ :: _, [], _ => rfl
  | i :: is, u :: us, σ => by
    show (setAll is us (σ.set i (.d u))).length = _
    rw [setAll_len, List.length_set]
theorem asg_out {t : Tgt} {x : D} {δ δ' : List LV} (h : t.asg x δ = some δ') : δ'.length = δ.length ∧ ∀ j, j ∉ t.slots → δ'[j]? = δ[j]? := by
  cases t with
  | one i =>
    cases h
    exact ⟨List.length_set, fun j hj => List.getElem?_set_ne fun z => hj (by rw [z]; exact List.mem_cons_self)⟩
  | tup is =>
    cases x with
    | tup xs =>
      have h : (if xs.length = is.length then some (setAll is xs δ) else none) = some δ' := h
      by_cases hl : xs.length = is.length
      · rw [if_pos hl] at h
        cases h
        exact ⟨setAll_len, fun j hj => setAll_out hj⟩
      · rw [if_neg hl] at h; cases h
    | _ => cases h
theorem asg_le {t : Tgt} {x : D} {δ δ' : List LV} (h : t.asg x δ = some δ') (hu : ∀ i ∈ t.slots, δ[i]? = some .un) : Le δ δ' := by
  obtain ⟨h1, h2⟩ := asg_out h
  refine ⟨h1.symm, fun i l hl => ?_⟩
  by_cases q : i ∈ t.slots
  · rw [hu i q] at hl; cases hl; exact .inl rfl
  · exact .inr ((h2 i q).trans hl)
/-- the slots of a target forgotten again -/
theorem SRep.back {H0 H0' H' : Hp} {t : Tgt} {us : List V} {x : D} {δ' : List LV} (S : SRep F H0 (setS t.slots us σ) H δ') (h : t.asg x δ = some δ') (hu : ∀ i ∈ t.slots, δ[i]? = some .un) : SRep F H0 σ H δ :=
  (S.weak (asg_le h hu)).slots setS_len.symm fun i l hl hn => (setS_out fun z => by
    rw [hu i z] at hl
    cases hl
    exact hn rfl).symm
/-- one turn's data behind the list so far -/
structure LcInv (F : Fm) (δ : List LV) (σ : L2.St) (H1 H01 : Hp) (Dl : Addr) (acc : List D) (H : Hp) : Prop where
  ex : ∃ H0 vs, Gr H01 H1 H0 H ∧ H0 Dl = none ∧ H Dl = some (.lst vs) ∧ Reps F.T H0 acc vs
theorem Gr.app {H01 H1 H0 H : Hp} {Dl : Addr} {o : HO} (g : Gr H01 H1 H0 H) (h : H1 Dl = none) (h0 : H0 Dl = none) : Gr H01 H1 H0 (upd H Dl o) := ⟨same_mut g.s h, g.s0, same_mut g.ex h0, g.nw⟩
section
variable {α : Type} {xs : List α} {enc : α → D} {pr : α → Bool} {g : α → D} {t : Tgt} {iter elt : Expr} {ifs : List Expr} {scope : Scope} {own : List (Str × Nat)}
theorem lc_any (hi : XI X F tg iter δ (xs.map enc)) (hu : unAll δ (own.map (·.2)) = true) (hsl : ∀ i ∈ t.slots, i ∈ own.map (·.2)) (hz : xs.length ≤ 1000000)
    (hg : ∀ (s : Shared) (H : Hp) (C : Addr) (cl : List (Str × Addr)) (fp : List Addr), XG (X.blk s H scope (compEnvC scope cl C X.env) fp) F tg t)
    (hx : ∀ x ∈ xs, ∃ δ', t.asg (enc x) δ = some δ' ∧ (∀ (s : Shared) (H : Hp) (C : Addr) (cl : List (Str × Addr)) (fp : List Addr), XTs (X.blk s H scope (compEnvC scope cl C X.env) fp) F ifs δ' (pr x)) ∧
      (pr x = true → ∀ (s : Shared) (H : Hp) (C : Addr) (cl : List (Str × Addr)) (fp : List Addr), XE (X.blk s H scope (compEnvC scope cl C X.env) fp) F elt δ' (g x))) :
    ∀ σ H Q, tL F δ ((xs.filter pr).map g) σ H Q → tLc (tI F δ (xs.map enc)) (tAnyG X F tg scope) (tAnyT X F ifs scope) (tAnyE X F elt scope) (own.map (·.2)) σ H Q := by
  rintro σ H Q ⟨H0, S, k⟩
  refine ⟨H0, S, fun J H1 H01 g1 Y Dl hD => ?_⟩
  have S1w := (S.gr g1).wiped hu
  refine ⟨fun i m H2 => m = xs.length - i ∧ i ≤ xs.length ∧ LcInv F δ (wipe σ (own.map (·.2))) H1 H01 Dl (((xs.take i).filter pr).map g) H2, ⟨xs.length, by simp, Nat.zero_le _, ⟨H01, [], Gr.laid g1.ex hD, g1.ex.free hD, upd_same, reps_nil⟩⟩, ?_⟩
  rintro i m H2 ⟨rfl, hi, ⟨H02, vs, g2, hD0, hDl, rs⟩⟩
  have S2 := S1w.gr g2
  have sY : Same H01 H2 := g2.s0.trans g2.ex
  obtain ⟨y1, y2⟩ := Y i H2 sY
  rw [List.length_map] at y1 y2
  by_cases hlt : i < xs.length
  · obtain ⟨go, yl⟩ := y1 hlt
    refine .inr ⟨go, fun H3 => LcInv F δ (wipe σ (own.map (·.2))) H1 H01 Dl (((xs.take (i + 1)).filter pr).map g) H3, fun H3 n => ⟨xs.length - (i + 1), by omega, rfl, hlt, n⟩, fun v H3 hy => ?_⟩
    have hxi : xs[i]? = some xs[i] := List.getElem?_eq_getElem hlt
    have hmem : xs[i] ∈ xs := List.getElem_mem hlt
    obtain ⟨δ', ha, ht, he⟩ := hx xs[i] hmem
    have hy2 := yl v H3 hy (enc xs[i]) (by rw [List.getElem?_map, hxi]; rfl)
    have lv : vs.length ≤ i := by
      have := rs.length
      rw [List.length_map] at this
      have q := List.length_filter_le pr (xs.take i)
      rw [List.length_take] at q
      omega
    have tk : xs.take (i + 1) = xs.take i ++ [xs[i]] := by rw [List.take_add_one, hxi]; rfl
    -- the item stands in H3, told by H03
    obtain ⟨H03, g3, r3, hD3, hDl3⟩ : ∃ H03, Gr H02 H2 H03 H3 ∧ Rep F.T H03 (enc xs[i]) v ∧ H03 Dl = none ∧ H3 Dl = some (.lst vs) := by
      rcases hy2 with ⟨rfl, r⟩ | ⟨p, us, ds, ex, rfl, hp, rfl, r⟩
      · exact ⟨H02, Gr.refl g2.ex, Rep.mono g2.s0 _ _ r, hD0, hDl⟩
      · have np : Dl ≠ p := fun z => by subst z; rw [hDl] at hp; cases hp
        refine ⟨upd H02 p (.tup us), Gr.new g2.ex hp, ?_, by rw [upd_ne np]; exact hD0, by rw [upd_ne np]; exact hDl⟩
        rw [ex]
        exact rep_tup.mpr ⟨p, us, rfl, upd_same, Reps.mono (g2.s0.trans (same_new (g2.ex.free hp))) _ _ r⟩
    refine ⟨t.slots, δ, enc xs[i], δ', fun s H C cl fp => hg s H C cl fp δ _ δ' ha, H03, S2.gr g3, r3, fun us S4 => ⟨wipe_setS hsl, δ', pr xs[i], ht, H03, S4, fun H5 H05 g5 => ?_⟩⟩
    have hD5 : H5 Dl = some (.lst vs) := g5.s _ _ hDl3
    have hD05 : H05 Dl = none := by
      cases q : H05 Dl with
      | none => rfl
      | some o =>
        rcases g5.nw _ _ q with z | z
        · rw [hD3] at z; cases z
        · rw [hDl3] at z; cases z
    cases hp : pr xs[i] with
    | false =>
      show LcInv _ _ _ _ _ _ _ _
      have e : ((xs.take (i + 1)).filter pr) = (xs.take i).filter pr := by rw [tk, List.filter_append, List.filter_cons, if_neg (by rw [hp]; decide)]; simp
      rw [e]
      exact ⟨H05, vs, (g2.trans g3).trans g5, hD05, hD5, Reps.mono (g3.s0.trans g5.s0) _ _ rs⟩
    | true =>
      show tAnyE X F elt scope _ H5 _
      refine ⟨δ', g xs[i], he hp, H05, S4.gr g5, fun y H6 H06 g6 r6 => ⟨vs, g6.s _ _ hD5, by rw [sizeLine_eq]; omega, ?_⟩⟩
      have hD06 : H06 Dl = none := by
        cases q : H06 Dl with
        | none => rfl
        | some o =>
          rcases g6.nw _ _ q with z | z
          · rw [hD05] at z; cases z
          · rw [hD5] at z; cases z
      have e : ((xs.take (i + 1)).filter pr) = (xs.take i).filter pr ++ [xs[i]] := by rw [tk, List.filter_append, List.filter_cons, if_pos hp]; simp
      rw [e, List.map_append]
      exact ⟨H06, _, ((((g2.trans g3).trans g5).trans g6)).app hD hD06, hD06, upd_same, (Reps.mono ((g3.s0.trans g5.s0).trans g6.s0) _ _ rs).append (reps_cons r6 reps_nil)⟩
  · have e : i = xs.length := by omega
    subst e
    refine .inl ⟨y2 rfl, ?_⟩
    rw [List.take_length] at rs
    exact k Dl vs H2 H02 (g1.trans g2) (g1.s.free hD) hD0 hDl rs
theorem any_g : ∀ (s : Shared) (H : Hp) (C : Addr) (cl : List (Str × Addr)) (fp : List Addr), PG (X.blk s H scope (compEnvC scope cl C X.env) fp) tg (tAnyG X F tg scope) :=
  fun s H C cl fp => ⟨fun pins s1 σ H1 v u Q I r ⟨is, δ, x, δ', h, q⟩ => (h s H C cl fp).run pins s1 σ H1 v u Q I r q⟩
theorem any_t : ∀ (s : Shared) (H : Hp) (C : Addr) (cl : List (Str × Addr)) (fp : List Addr), PTs (X.blk s H scope (compEnvC scope cl C X.env) fp) ifs (tAnyT X F ifs scope) :=
  fun s H C cl fp => ⟨fun pins s1 σ H1 Q I ⟨δ, p, h, q⟩ => (h s H C cl fp).run pins s1 σ H1 Q I q⟩
theorem any_e : ∀ (s : Shared) (H : Hp) (C : Addr) (cl : List (Str × Addr)) (fp : List Addr), PE (X.blk s H scope (compEnvC scope cl C X.env) fp) e (tAnyE X F e scope) :=
  fun s H C cl fp => ⟨fun pins s1 σ H1 Q I ⟨δ, p, h, q⟩ => (h s H C cl fp).run pins s1 σ H1 Q I q⟩
/-- [elt for tg in iter if ..] -/
theorem l_lc (own : List (Str × Nat)) (t : Tgt) (xs : List α) (enc : α → D) (pr : α → Bool) (g : α → D) (hN : X.N.Nodup) (hi : XI X F tg iter δ (xs.map enc)) (ok : BlkOk X.N X.env.scope scope own)
    (hg : ∀ (s : Shared) (H : Hp) (C : Addr) (cl : List (Str × Addr)) (fp : List Addr), XG (X.blk s H scope (compEnvC scope cl C X.env) fp) F tg t)
    (hx : ∀ x ∈ xs, ∃ δ', t.asg (enc x) δ = some δ' ∧ (∀ (s : Shared) (H : Hp) (C : Addr) (cl : List (Str × Addr)) (fp : List Addr), XTs (X.blk s H scope (compEnvC scope cl C X.env) fp) F ifs δ' (pr x)) ∧
      (pr x = true → ∀ (s : Shared) (H : Hp) (C : Addr) (cl : List (Str × Addr)) (fp : List Addr), XE (X.blk s H scope (compEnvC scope cl C X.env) fp) F elt δ' (g x)))
    (hz : xs.length ≤ 1000000) (hu : unAll δ (own.map (·.2)) = true := by rfl) (hsl : ∀ i ∈ t.slots, i ∈ own.map (·.2) := by decide) (hc : X.calm = true := by rfl) (hs : ∀ x, foldedSetIterable iter X.env x = pure x := by intro _; rfl) :
    XL X F (.ListComp elt [⟨tg, iter, ifs, 0⟩] scope pos) δ ((xs.filter pr).map g) :=
  PE.imp (pe_lc (own := own) hc hN hi ok any_g any_t any_e hs) (lc_any hi hu hsl hz hg hx)
end
end
end Dl
end
section
set_option Elab.async false
set_option linter.all false
set_option maxRecDepth 100000
set_option maxHeartbeats 2000000
/-! Statements, loops, defs. -/
namespace Dl
open PySem PySem.Spec PyProof.Rows L2

structure DE where
  nx : List LV → Prop
  rt : D → Prop
  bk : List LV → Prop := fun _ => False
  ct : List LV → Prop := fun _ => False
/-- what follows, from H0 on -/
structure Kt (F : Fm) (E : Ends) (Φ : DE) (H0 : Hp) : Prop where
  nx : ∀ σ' H' H0' δ', Same H0 H0' → SRep F H0' σ' H' δ' → Φ.nx δ' → E.nx σ' H'
  rt : ∀ v σ' H' H0' δ' x, Same H0 H0' → SRep F H0' σ' H' δ' → Rep F.T H0' x v → Φ.rt x → E.rt v H'
  bk : ∀ σ' H' H0' δ', Same H0 H0' → SRep F H0' σ' H' δ' → Φ.bk δ' → E.bk σ' H'
  ct : ∀ σ' H' H0' δ', Same H0 H0' → SRep F H0' σ' H' δ' → Φ.ct δ' → E.ct σ' H'
theorem Kt.mono {F : Fm} {E : Ends} {Φ : DE} {H0 H0' : Hp} (k : Kt F E Φ H0) (s : Same H0 H0') : Kt F E Φ H0' :=
  ⟨fun σ' H' H2 d s' S m => k.nx σ' H' H2 d (s.trans s') S m, fun v σ' H' H2 d x s' S r m => k.rt v σ' H' H2 d x (s.trans s') S r m, fun σ' H' H2 d s' S m => k.bk σ' H' H2 d (s.trans s') S m, fun σ' H' H2 d s' S m => k.ct σ' H' H2 d (s.trans s') S m⟩
def tS (F : Fm) (δ : List LV) (Φ : DE) : TS := fun E σ H => ∃ H0, SRep F H0 σ H δ ∧ Kt F E Φ H0
abbrev HS (X : Cx) (F : Fm) (st : Stmt) (δ : List LV) (Φ : DE) : Prop := PS X st (tS F δ Φ)
abbrev HSs (X : Cx) (F : Fm) (sts : List Stmt) (δ : List LV) (Φ : DE) : Prop := PSs X sts (tS F δ Φ)
def tAnyS (X : Cx) (F : Fm) (sts : List Stmt) : TS := fun E σ H => ∃ δ Φ, HSs X F sts δ Φ ∧ tS F δ Φ E σ H
section
variable {X : Cx} {F : Fm} {δ : List LV} {a b c e o tg : Expr} {es : List Expr} {x y z : D} {pos p : Pos} {σ : L2.St} {H : Hp} {xs : List D} {Φ : DE} {st : Stmt} {rest sa sb : List Stmt}
theorem any_s {sts : List Stmt} : PSs X sts (tAnyS X F sts) := ⟨fun pins s σ H E I ⟨δ, Φ, h, q⟩ => h.run pins s σ H E I q⟩
theorem hss_nil (h : Φ.nx δ) : HSs X F [] δ Φ := PSs.imp pss_nil fun E σ H ⟨H0, S, k⟩ => k.nx σ H H0 δ (Same.refl _) S h
theorem hss_one (h : HS X F st δ Φ) : HSs X F [st] δ Φ := pss_one h
/-- a statement, a word, the rest -/
theorem hss_cons (M : List LV → Prop) (h : HS X F st δ { Φ with nx := M }) (k : ∀ δ', M δ' → HSs X F rest δ' Φ) : HSs X F (st :: rest) δ Φ :=
  PSs.imp (pss_cons h (any_s (F := F))) fun E σ H ⟨H0, S, c⟩ => ⟨H0, S, ⟨fun σ' H' H0' δ' s S' m => ⟨δ', Φ, k δ' m, H0', S', c.mono s⟩, c.rt, c.bk, c.ct⟩⟩
/-- .. the one state behind it -/
theorem hss_seq (δ' : List LV) (h : ∀ Φ' : DE, Φ'.nx δ' → HS X F st δ Φ') (k : HSs X F rest δ' Φ) : HSs X F (st :: rest) δ Φ :=
  hss_cons (fun d => d = δ') (h _ rfl) fun d q => by cases q; exact k
/-- less is known -/
theorem hss_weak (δ' : List LV) (h : HSs X F rest δ' Φ) (l : Le δ' δ) : HSs X F rest δ Φ := PSs.imp h fun E σ H ⟨H0, S, k⟩ => ⟨H0, S.weak l, k⟩
theorem hs_weak (δ' : List LV) (h : HS X F st δ' Φ) (l : Le δ' δ) : HS X F st δ Φ := PS.imp h fun E σ H ⟨H0, S, k⟩ => ⟨H0, S.weak l, k⟩
/-- another end -/
theorem hss_mono {Ψ : DE} (h : HSs X F rest δ Ψ) (n : ∀ d, Ψ.nx d → Φ.nx d) (r : ∀ d, Ψ.rt d → Φ.rt d) (b : ∀ d, Ψ.bk d → Φ.bk d) (c : ∀ d, Ψ.ct d → Φ.ct d) : HSs X F rest δ Φ :=
  PSs.imp h fun E σ H ⟨H0, S, k⟩ => ⟨H0, S, ⟨fun s H' H0' d q S' m => k.nx s H' H0' d q S' (n d m), fun v s H' H0' d x q S' r' m => k.rt v s H' H0' d x q S' r' (r x m), fun s H' H0' d q S' m => k.bk s H' H0' d q S' (b d m), fun s H' H0' d q S' m => k.ct s H' H0' d q S' (c d m)⟩⟩
/-- an owned list becomes a datum -/
theorem hss_freeze (i : Nat) {l : LV} (h : HSs X F rest (δ.set i (.d (frozen l))) Φ) (hi : δ[i]? = some l := by rfl) (io : isOwn l = true := by rfl) (nt : (∀ kvs, l ≠ .T kvs) ∧ (∀ x fs, l ≠ .N x fs) ∧ ∀ d c n, l ≠ .K d c n := by exact ⟨by intro _ z; cases z, by intro _ _ z; cases z, by intro _ _ _ z; cases z⟩) : HSs X F rest δ Φ :=
  PSs.imp h fun E σ H ⟨H0, S, k⟩ => by
    obtain ⟨H0', s0, S'⟩ := S.freeze hi io nt
    exact ⟨H0', S', k.mono s0⟩
theorem hs_freeze (i : Nat) {l : LV} (h : HS X F st (δ.set i (.d (frozen l))) Φ) (hi : δ[i]? = some l := by rfl) (io : isOwn l = true := by rfl) (nt : (∀ kvs, l ≠ .T kvs) ∧ (∀ x fs, l ≠ .N x fs) ∧ ∀ d c n, l ≠ .K d c n := by exact ⟨by intro _ z; cases z, by intro _ _ z; cases z, by intro _ _ _ z; cases z⟩) : HS X F st δ Φ :=
  PS.imp h fun E σ H ⟨H0, S, k⟩ => by
    obtain ⟨H0', s0, S'⟩ := S.freeze hi io nt
    exact ⟨H0', S', k.mono s0⟩
theorem hs_pass (h : Φ.nx δ) : HS X F (.Pass pos) δ Φ := PS.imp ps_pass fun E σ H ⟨H0, S, k⟩ => k.nx σ H H0 δ (Same.refl _) S h
theorem hs_break (h : Φ.bk δ) : HS X F (.Break pos) δ Φ := PS.imp ps_break fun E σ H ⟨H0, S, k⟩ => k.bk σ H H0 δ (Same.refl _) S h
theorem hs_ret (he : XE X F e δ x) (h : Φ.rt x) : HS X F (.Return (some e) pos) δ Φ :=
  PS.imp (ps_ret he) fun E σ H ⟨H0, S, k⟩ => ⟨H0, S, fun v H' H0' g r => k.rt v σ H' H0' δ x g.s0 (S.gr g) r h⟩
/-- if: the test's answer known -/
theorem hs_if {q : Bool} (hc : XT X F c δ q) (h1 : q = true → HSs X F sa δ Φ) (h2 : q = false → HSs X F sb δ Φ) : HS X F (.If c sa sb pos) δ Φ := by
  cases q with
  | true => exact PS.imp (ps_if hc (h1 rfl) (u := tNever) pss_never) fun E σ H ⟨H0, S, k⟩ => ⟨H0, S, fun H' H0' g => ⟨H0', S.gr g, k.mono g.s0⟩⟩
  | false => exact PS.imp (ps_if hc (t := tNever) pss_never (h2 rfl)) fun E σ H ⟨H0, S, k⟩ => ⟨H0, S, fun H' H0' g => ⟨H0', S.gr g, k.mono g.s0⟩⟩
/-- if c: return .. (or any suite that does not come through) -/
theorem hss_guard {q : Bool} (hc : XT X F c δ q) (h1 : q = true → HSs X F sa δ { Φ with nx := fun _ => False }) (h2 : q = false → HSs X F rest δ Φ) : HSs X F (.If c sa [] pos :: rest) δ Φ :=
  hss_cons (fun d => d = δ ∧ q = false) (hs_if hc (fun e => hss_mono (h1 e) (fun _ z => z.elim) (fun _ z => z) (fun _ z => z) (fun _ z => z)) (fun e => hss_nil ⟨rfl, e⟩)) fun d ⟨e, e2⟩ => by cases e; exact h2 e2
/-- if c: raise .. : c is false -/
theorem hss_skip (hc : XT X F c δ false) (h2 : HSs X F rest δ Φ) : HSs X F (.If c sa [] pos :: rest) δ Φ := hss_guard hc (fun e => by cases e) fun _ => h2

/-! ### assignments -/
theorem hs_set (i : Nat) {n : Str} {p2 : Pos} (hN : X.N.Nodup) (he : XE X F e δ x) (h : Φ.nx (δ.set i (.d x))) (hi : X.N[i]? = some n := by rfl) (hx : Loc X.env.scope n := by first | exact Or.inl rfl | exact Or.inr rfl) (hs : swapsWith e (some (.Name n p2)) pos.line X.env = pure false := by rfl) (hf : X.fn n = true ∨ X.env.scope.names.lookup n = some .local := by first | exact .inl rfl | exact .inr rfl) :
    HS X F (.Assign [.Name n p2] e pos) δ Φ := PS.imp (ps_set hN hi hx he hs hf) fun E σ H ⟨H0, S, k⟩ => ⟨H0, S, fun v H' H0' g r => k.nx _ H' H0' _ g.s0 ((S.gr g).set i r) h⟩
theorem SRep.put {H0 : Hp} (S : SRep F H0 σ H δ) {H0' H' : Hp} {l : LV} (i : Nat) {q : Addr} (g : Gr H0 H H0' H') (hq : H q = none) (h0 : H0' q = none) (io : isOwn l = true) (ow : Own F H0' H' q l) : SRep F H0' (σ.set i (some (.ref q))) H' (δ.set i l) := by
  refine (S.gr g).setOwn i io h0 (S.bb.free hq) ow fun j m hj oj ej => ?_
  obtain ⟨a, ea, _, _, oa⟩ := S.own j m hj oj
  rw [ej] at ea
  cases ea
  obtain ⟨ob, hob⟩ := oa.some
  rw [hq] at hob
  cases hob
theorem hs_setL (i : Nat) {n : Str} {p2 : Pos} (hN : X.N.Nodup) (he : XL X F e δ xs) (h : Φ.nx (δ.set i (.L xs))) (hi : X.N[i]? = some n := by rfl) (hx : Loc X.env.scope n := by first | exact Or.inl rfl | exact Or.inr rfl) (hs : swapsWith e (some (.Name n p2)) pos.line X.env = pure false := by rfl) (hf : X.fn n = true ∨ X.env.scope.names.lookup n = some .local := by first | exact .inl rfl | exact .inr rfl) :
    HS X F (.Assign [.Name n p2] e pos) δ Φ := PS.imp (ps_set hN hi hx he hs hf) fun E σ H ⟨H0, S, k⟩ => ⟨H0, S, fun q vs H' H0' g hq h0 hv r => k.nx _ H' H0' _ g.s0 (S.put i g hq h0 (l := .L xs) rfl ⟨vs, hv, r⟩) h⟩
theorem hs_setM (i : Nat) {n : Str} {p2 : Pos} {ks : List Key} (hN : X.N.Nodup) (he : XM X F e δ ks xs) (h : Φ.nx (δ.set i (.M ks xs))) (hi : X.N[i]? = some n := by rfl) (hx : Loc X.env.scope n := by first | exact Or.inl rfl | exact Or.inr rfl) (hs : swapsWith e (some (.Name n p2)) pos.line X.env = pure false := by rfl) (hf : X.fn n = true ∨ X.env.scope.names.lookup n = some .local := by first | exact .inl rfl | exact .inr rfl) :
    HS X F (.Assign [.Name n p2] e pos) δ Φ := PS.imp (ps_set hN hi hx he hs hf) fun E σ H ⟨H0, S, k⟩ => ⟨H0, S, fun q vs H' H0' g hq h0 hv hl r => k.nx _ H' H0' _ g.s0 (S.put i g hq h0 (l := .M ks xs) rfl ⟨vs, hv, hl, r⟩) h⟩
/-- y = [.. for ..] on one line -/
theorem hs_setLc {α : Type} (i : Nat) {n : Str} {p2 cpos : Pos} {iter elt : Expr} {ifs : List Expr} {scope : Scope} (own : List (Str × Nat)) (t : Tgt) (xs : List α) (enc : α → D) (pr : α → Bool) (g : α → D) (hN : X.N.Nodup) (hi : XI X F tg iter δ (xs.map enc)) (ok : BlkOk X.N X.env.scope scope own)
    (hg : ∀ (s : Shared) (H : Hp) (C : Addr) (cl : List (Str × Addr)) (fp : List Addr), XG (X.blk s H scope (compEnvC scope cl C X.env) fp) F tg t)
    (hx : ∀ x ∈ xs, ∃ δ', t.asg (enc x) δ = some δ' ∧ (∀ (s : Shared) (H : Hp) (C : Addr) (cl : List (Str × Addr)) (fp : List Addr), XTs (X.blk s H scope (compEnvC scope cl C X.env) fp) F ifs δ' (pr x)) ∧
      (pr x = true → ∀ (s : Shared) (H : Hp) (C : Addr) (cl : List (Str × Addr)) (fp : List Addr), XE (X.blk s H scope (compEnvC scope cl C X.env) fp) F elt δ' (g x)))
    (hz : xs.length ≤ 1000000) (h : Φ.nx (δ.set i (.L ((xs.filter pr).map g)))) (hy : X.N[i]? = some n := by rfl) (hyl : X.env.scope.names.lookup n = some .local := by rfl) (hsw : swapsWith (.ListComp elt [⟨tg, iter, ifs, 0⟩] scope cpos) (some (.Name n p2)) pos.line X.env = pure true := by exact sw_true rfl rfl rfl (by decide +kernel))
    (hu : unAll δ (own.map (·.2)) = true := by rfl) (hsl : ∀ i ∈ t.slots, i ∈ own.map (·.2) := by decide) (hc : X.calm = true := by rfl) (hs : ∀ x, foldedSetIterable iter X.env x = pure x := by intro _; rfl) :
    HS X F (.Assign [.Name n p2] (.ListComp elt [⟨tg, iter, ifs, 0⟩] scope cpos) pos) δ Φ :=
  PS.imp (ps_setLc (own := own) hc hN hy hyl hsw hi ok any_g any_t any_e hs) fun E σ H ⟨H0, S, k⟩ => by
    refine lc_any (pr := pr) (g := g) hi hu hsl hz hg hx σ H _ ⟨H0, S, fun q vs H' H0' gr hq h0 hv r => ?_⟩
    exact k.nx _ H' H0' _ gr.s0 (S.put i gr hq h0 (l := .L _) rfl ⟨vs, hv, r⟩) h
/-- x, y = e1, e2: the two values -/
inductive XAny (X : Cx) (F : Fm) (e : Expr) (δ : List LV) : LV → Prop
  | d {x : D} (h : XE X F e δ x) : XAny X F e δ (.d x)
  | L {xs : List D} (h : XL X F e δ xs) : XAny X F e δ (.L xs)
  | M {ks : List Key} {xs : List D} (h : XM X F e δ ks xs) : XAny X F e δ (.M ks xs)
/-- how the value v (made since H) is l -/
def IsV (F : Fm) (H H0' H' : Hp) (v : V) : LV → Prop
  | .d x => Rep F.T H0' x v
  | .un => False
  | l => ∃ q, v = .ref q ∧ H q = none ∧ H0' q = none ∧ Own F H0' H' q l
theorem XAny.run {l : LV} (h : XAny X F e δ l) : PE X e (fun σ H Q => ∃ H0, SRep F H0 σ H δ ∧ ∀ v H' H0', Gr H0 H H0' H' → IsV F H H0' H' v l → Q v H') := by
  cases h with
  | d h => exact PE.imp h fun σ H Q ⟨H0, S, k⟩ => ⟨H0, S, fun v H' H0' g r => k v H' H0' g r⟩
  | L h => exact PE.imp h fun σ H Q ⟨H0, S, k⟩ => ⟨H0, S, fun q vs H' H0' g hq h0 hv r => k _ H' H0' g ⟨q, rfl, hq, h0, vs, hv, r⟩⟩
  | M h => exact PE.imp h fun σ H Q ⟨H0, S, k⟩ => ⟨H0, S, fun q vs H' H0' g hq h0 hv hl r => k _ H' H0' g ⟨q, rfl, hq, h0, vs, hv, hl, r⟩⟩
theorem IsV.later {H1 H0 H0' H2 : Hp} {v : V} {l : LV} (h : IsV F H H0 H1 v l) (g : Gr H0 H1 H0' H2) : IsV F H H0' H2 v l := by
  have own : ∀ q l, H q = none → H0 q = none → Own F H0 H1 q l → H0' q = none ∧ Own F H0' H2 q l := fun q l hq h0 o => by
    obtain ⟨ob, hob⟩ := o.some
    refine ⟨?_, o.mono g.s0 (by rw [g.s _ _ hob, hob])⟩
    cases z : H0' q with
    | none => rfl
    | some u =>
      rcases g.nw _ _ z with y | y
      · rw [h0] at y; cases y
      · rw [hob] at y; cases y
  cases l with
  | un => exact h
  | d x => exact Rep.mono g.s0 _ _ h
  | L xs => obtain ⟨q, e, hq, h0, o⟩ := h; obtain ⟨a, b⟩ := own q _ hq h0 o; exact ⟨q, e, hq, a, b⟩
  | M ks xs => obtain ⟨q, e, hq, h0, o⟩ := h; obtain ⟨a, b⟩ := own q _ hq h0 o; exact ⟨q, e, hq, a, b⟩
  | T kvs => obtain ⟨q, e, hq, h0, o⟩ := h; obtain ⟨a, b⟩ := own q _ hq h0 o; exact ⟨q, e, hq, a, b⟩
  | N _ kvs => obtain ⟨q, e, hq, h0, o⟩ := h; obtain ⟨a, b⟩ := own q _ hq h0 o; exact ⟨q, e, hq, a, b⟩
  | K _ _ _ => obtain ⟨q, e, hq, h0, o⟩ := h; obtain ⟨a, b⟩ := own q _ hq h0 o; exact ⟨q, e, hq, a, b⟩
/-- a slot gets a value made since H -/
theorem SRep.gets {H0 H0' H' : Hp} {v : V} {l : LV} (S : SRep F H0' σ H' δ) (SB : Same F.B H) (h : IsV F H H0' H' v l) (i : Nat)
    (un : ∀ q, v = .ref q → isOwn l = true → ∀ (j : Nat) (m : LV), δ[j]? = some m → isOwn m = true → σ[j]? = some (some (V.ref q)) → j = i) : SRep F H0' (σ.set i (some v)) H' (δ.set i l) := by
  cases l with
  | un => exact h.elim
  | d x => exact S.set i h
  | L xs => obtain ⟨q, rfl, hq, h0, o⟩ := h; exact S.setOwn i rfl h0 (SB.free hq) o (un q rfl rfl)
  | M ks xs => obtain ⟨q, rfl, hq, h0, o⟩ := h; exact S.setOwn i rfl h0 (SB.free hq) o (un q rfl rfl)
  | T kvs => obtain ⟨q, rfl, hq, h0, o⟩ := h; exact S.setOwn i rfl h0 (SB.free hq) o (un q rfl rfl)
  | N _ kvs => obtain ⟨q, rfl, hq, h0, o⟩ := h; exact S.setOwn i rfl h0 (SB.free hq) o (un q rfl rfl)
  | K _ _ _ => obtain ⟨q, rfl, hq, h0, o⟩ := h; exact S.setOwn i rfl h0 (SB.free hq) o (un q rfl rfl)
theorem hs_par (i j : Nat) {l m : LV} {n1 n2 : Str} {px py pt pt2 : Pos} {kt k2 : Nat} (hN : X.N.Nodup) (ha : XAny X F a δ l) (hb : XAny X F b δ m) (h : Φ.nx ((δ.set i l).set j m)) (hij : i ≠ j := by decide)
    (hi : X.N[i]? = some n1 := by rfl) (hj : X.N[j]? = some n2 := by rfl) (hx : X.env.scope.names.lookup n1 = some .local := by rfl) (hy : X.env.scope.names.lookup n2 = some .local := by rfl)
    (hw : swappedStores [.Tuple [.Name n1 px, .Name n2 py] kt pt] (.Tuple [a, b] k2 pt2) X.env = pure (some [n1, n2]) := by rfl)
    (hs : swapsWithSole [.Tuple [.Name n1 px, .Name n2 py] kt pt] (.Tuple [a, b] k2 pt2) pos.line X.env = pure false := by rfl) (hc : X.calm = true := by rfl)
    (h1 : starEach [a, b] X.env = (false, eval a X.env) :: starEach [b] X.env := by rfl) (h2 : starEach [b] X.env = (false, eval b X.env) :: starEach [] X.env := by rfl) :
    HS X F (.Assign [.Tuple [.Name n1 px, .Name n2 py] kt pt] (.Tuple [a, b] k2 pt2) pos) δ Φ :=
  PS.imp (ps_par hc hN hi hj hij hx hy (pa_cons ha.run (pa_cons hb.run pa_nil h2) h1) hw hs) fun E σ H ⟨H0, S, k⟩ => by
    refine ⟨H0, S, fun v H1 H01 g1 r1 => ⟨H01, S.gr g1, fun w H2 H02 g2 r2 => ⟨v, w, rfl, ?_⟩⟩⟩
    have r1' := r1.later g2
    have S2 := (S.gr g1).gr g2
    have old : ∀ q, H q = none → ∀ (j : Nat) (m : LV), δ[j]? = some m → isOwn m = true → σ[j]? = some (some (V.ref q)) → False := fun q hq j m hj oj ej => by
      obtain ⟨a, ea, _, _, oa⟩ := S.own j m hj oj
      rw [ej] at ea
      cases ea
      obtain ⟨ob, hob⟩ := oa.some
      rw [hq] at hob
      cases hob
    have own_v : ∀ {v : V} {l : LV} {H' H0' Hs : Hp} {q : Addr}, IsV F Hs H0' H' v l → v = .ref q → isOwn l = true → Hs q = none ∧ ∃ o, H' q = some o := fun {v l H' H0' Hs q} r e io => by
      cases l with
      | un => cases io
      | d x => cases io
      | L xs => obtain ⟨q', e', hq, _, o⟩ := r; rw [e] at e'; cases e'; exact ⟨hq, o.some⟩
      | M ks xs => obtain ⟨q', e', hq, _, o⟩ := r; rw [e] at e'; cases e'; exact ⟨hq, o.some⟩
      | T kvs => obtain ⟨q', e', hq, _, o⟩ := r; rw [e] at e'; cases e'; exact ⟨hq, o.some⟩
      | N _ kvs => obtain ⟨q', e', hq, _, o⟩ := r; rw [e] at e'; cases e'; exact ⟨hq, o.some⟩
      | K _ _ _ => obtain ⟨q', e', hq, _, o⟩ := r; rw [e] at e'; cases e'; exact ⟨hq, o.some⟩
    have S3 := S2.gets (H0 := H0) S.bb r1' i fun q e io j' m' hj' oj ej => (old q (own_v r1' e io).1 j' m' hj' oj ej).elim
    refine k.nx _ H2 H02 _ (g1.s0.trans g2.s0) (S3.gets (H0 := H0) (S.bb.trans g1.s) r2 j fun q e io j' m' hj' oj ej => ?_) h
    have hq1 := (own_v r2 e io).1
    by_cases z : j' = j
    · exact z
    · by_cases z2 : i = j'
      · subst z2
        have hl : i < δ.length := by
          rcases Nat.lt_or_ge i δ.length with y | y
          · exact y
          · rw [List.getElem?_eq_none (by rw [List.length_set]; exact y)] at hj'; cases hj'
        rw [List.getElem?_set_self hl] at hj'
        cases hj'
        rw [List.getElem?_set_self (by rw [← S.len]; exact hl)] at ej
        have ev : v = .ref q := Option.some.inj (Option.some.inj ej)
        obtain ⟨o, ho⟩ := (own_v r1 ev oj).2
        rw [ho] at hq1; cases hq1
      · rw [List.getElem?_set_ne z2] at hj' ej
        exact (old q (g1.s.free hq1) j' m' hj' oj ej).elim
/-- a, b, .. = a tuple -/
theorem hs_unpack {t : Tgt} {δ' : List LV} (hg : XG X F tg t) (he : XE X F e δ x) (ha : t.asg x δ = some δ') (h : Φ.nx δ') (hs : swapsWithSole [tg] e pos.line X.env = pure false := by rfl) (hw : swappedStores [tg] e X.env = pure none := by rfl)
    (h1 : (assignEach [tg] X.env).map (·.2) = [assign tg X.env] := by rfl) : HS X F (.Assign [tg] e pos) δ Φ :=
  PS.imp (ps_asg he (hg δ x δ' ha) hs hw h1) fun E σ H ⟨H0, S, k⟩ => ⟨H0, S, fun v H' H0' g r => ⟨H0', S.gr g, r, fun us S' => k.nx _ H' H0' _ g.s0 S' h⟩⟩
/-- n += e -/
theorem hs_aug (i : Nat) {n : Str} {p2 : Pos} {u w : Int} (hN : X.N.Nodup) (hu : δ[i]? = some (.d (.int u))) (he : XE X F e δ (.int w)) (h : Φ.nx (δ.set i (.d (.int (u + w))))) (hi : X.N[i]? = some n := by rfl) (hx : Loc X.env.scope n := by first | exact Or.inl rfl | exact Or.inr rfl) (hf : X.fn n = true ∨ X.env.scope.names.lookup n = some .local := by first | exact .inl rfl | exact .inr rfl) :
    HS X F (.AugAssign (.Name n p2) .Add e pos) δ Φ := PS.imp (ps_aug hN hi hx he ip_add hf) fun E σ H ⟨H0, S, k⟩ => by
  obtain ⟨v, e1, r⟩ := S.dat i _ hu
  exact ⟨v, e1, H0, S, fun w' H' H0' g r2 => ⟨u, w, rep_int.mp r, rep_int.mp r2, k.nx _ H' H0' _ g.s0 ((S.gr g).set i (rep_int.mpr rfl)) h⟩⟩

/-! ### what changes owned objects -/
theorem own_same {H0 H' H0' : Hp} {i : Nat} {l : LV} {q : Addr} (S : SRep F H0 σ H δ) (g : Gr H0 H H0' H') (hl : δ[i]? = some l) (io : isOwn l = true) (hq : σ[i]? = some (some (.ref q))) : Own F H0' H' q l := by
  obtain ⟨a, ea, _, _, o⟩ := (S.gr g).own i l hl io
  rw [hq] at ea
  cases ea
  exact o
/-- xs.append(e) -/
theorem hs_append (i : Nat) {n : Str} {p1 p2 p3 : Pos} (he : XE X F e δ x) (hl : δ[i]? = some (.L xs)) (hz : xs.length ≤ 1000000) (h : Φ.nx (δ.set i (.L (xs ++ [x])))) (hN : X.N[i]? = some n := by rfl) (hv : Vis X.env.scope n := by first | exact Or.inl rfl | exact Or.inr (Or.inl rfl) | exact Or.inr (Or.inr rfl))
    (hd : (n == ("__debug__" : Str)) = false := by decide) (hcd : (n == ("__classdict__" : Str)) = false := by decide)
    (hq : ∀ t, PE X e t → PE X (.Call (.Attribute (.Name n p1) "append" p2) [e] [] p3) (tBM X.K "list" rAppend (tVar i) (tCons t tNil)) := by exact fun _ h => pe_bm PySem.F.plainAttrs_list PySem.F.slot_list_append PySem.F.type_list_append mt_append (pe_var (by rfl) (by first | exact Or.inl rfl | exact Or.inr (Or.inl rfl) | exact Or.inr (Or.inr rfl)) (by decide) (by decide)) (pa_cons h pa_nil))
    (hs : swapsWith (.Call (.Attribute (.Name n p1) "append" p2) [e] [] p3) none pos.line X.env = pure false := by rfl) :
    HS X F (.Expr (.Call (.Attribute (.Name n p1) "append" p2) [e] [] p3) pos) δ Φ := by
  refine PS.imp (ps_expr (hq _ he) hs) fun E σ H ⟨H0, S, k⟩ => ?_
  obtain ⟨q, eq, h0, hb, o⟩ := S.own i _ hl rfl
  obtain ⟨vs, e1, r1⟩ := o
  refine ⟨.ref q, eq, .inl ⟨rfl, vs, SqL.of e1⟩, H0, S, fun v H' H0' g r => ?_⟩
  obtain ⟨us, e2, r2⟩ := own_same S g hl rfl eq
  have l2 := r2.length
  refine ⟨q, us, v, rfl, rfl, e2, by rw [sizeLine_eq]; omega, ?_⟩
  exact k.nx σ _ H0' _ g.s0 ((S.gr g).mutate (l' := .L (xs ++ [x])) hl rfl eq rfl ⟨_, upd_same, r2.append (reps_cons r reps_nil)⟩) h
/-- xs.extend(a list) -/
theorem hs_extend (i : Nat) {n : Str} {p1 p2 p3 : Pos} {ys : List D} (he : XE X F e δ (.lst ys)) (hl : δ[i]? = some (.L xs)) (hz : xs.length + ys.length ≤ 1000000) (h : Φ.nx (δ.set i (.L (xs ++ ys)))) (hN : X.N[i]? = some n := by rfl) (hv : Vis X.env.scope n := by first | exact Or.inl rfl | exact Or.inr (Or.inl rfl) | exact Or.inr (Or.inr rfl))
    (hd : (n == ("__debug__" : Str)) = false := by decide) (hcd : (n == ("__classdict__" : Str)) = false := by decide)
    (hq : ∀ t, PE X e t → PE X (.Call (.Attribute (.Name n p1) "extend" p2) [e] [] p3) (tBM X.K "list" rExtend (tVar i) (tCons t tNil)) := by exact fun _ h => pe_bm PySem.F.plainAttrs_list PySem.F.slot_list_extend PySem.F.type_list_extend mt_extend (pe_var (by rfl) (by first | exact Or.inl rfl | exact Or.inr (Or.inl rfl) | exact Or.inr (Or.inr rfl)) (by decide) (by decide)) (pa_cons h pa_nil))
    (hs : swapsWith (.Call (.Attribute (.Name n p1) "extend" p2) [e] [] p3) none pos.line X.env = pure false := by rfl) :
    HS X F (.Expr (.Call (.Attribute (.Name n p1) "extend" p2) [e] [] p3) pos) δ Φ := by
  refine PS.imp (ps_expr (hq _ he) hs) fun E σ H ⟨H0, S, k⟩ => ?_
  obtain ⟨q, eq, h0, hb, o⟩ := S.own i _ hl rfl
  obtain ⟨vs, e1, r1⟩ := o
  refine ⟨.ref q, eq, .inl ⟨rfl, vs, SqL.of e1⟩, H0, S, fun v H' H0' g r => ?_⟩
  obtain ⟨us, e2, r2⟩ := own_same S g hl rfl eq
  obtain ⟨c, ws, rfl, e3, r3⟩ := rep_lst.mp r
  have l2 := r2.length
  have l3 := r3.length
  refine ⟨q, c, us, ws, rfl, rfl, e2, g.ex _ _ e3, by rw [sizeLine_eq]; omega, ?_⟩
  exact k.nx σ _ H0' _ g.s0 ((S.gr g).mutate (l' := .L (xs ++ ys)) hl rfl eq rfl ⟨_, upd_same, r2.append r3⟩) h
/-- d[k] = e, d of one's own -/
def dPut (ks : List Key) (xs : List D) (k : Key) (x : D) : LV := if dHas ks k then .M ks ((ks.zip xs).map fun q => if q.1 = k then x else q.2) else .M (ks ++ [k]) (xs ++ [x])
theorem putK_zip {T : Addr} {H : Hp} {k : Key} {x : D} {v : V} (hv : Rep T H x v) : ∀ {ks : List Key} {xs : List D} {vs : List V}, Reps T H xs vs → ks.length = xs.length →
    ((ks.zip vs).map fun kv => if kv.1 = k then (kv.1, v) else kv) = ks.zip ((ks.zip vs).map fun q => if q.1 = k then v else q.2) ∧ Reps T H ((ks.zip xs).map fun q => if q.1 = k then x else q.2) ((ks.zip vs).map fun q => if q.1 = k then v else q.2) := by
  intro ks xs vs r hl
  induction ks generalizing xs vs with
  | nil =>
    cases xs with
    | nil => exact ⟨rfl, reps_nil⟩
    | cons _ _ => simp at hl
  | cons q ks ih =>
    cases xs with
    | nil => simp at hl
    | cons y xs =>
      obtain ⟨u, us, rfl, h1, h2⟩ := r.cons_iff
      obtain ⟨e1, e2⟩ := ih h2 (by simpa using hl)
      simp only [List.zip_cons_cons, List.map_cons]
      by_cases z : q = k
      · simp only [z, if_true]
        exact ⟨by rw [e1], reps_cons hv e2⟩
      · simp only [z, if_false]
        exact ⟨by rw [e1], reps_cons h1 e2⟩
theorem hs_dput (i : Nat) {n : Str} {p1 p2 : Pos} {ks : List Key} {k : Key} {ix : Expr} (hu : X.A.units + 1 < cLine) (he : XE X F e δ x) (hix : XE X F ix δ y) (hk : keyD y = some k) (hl : δ[i]? = some (.M ks xs)) (hz : xs.length ≤ 1000000) (h : Φ.nx (δ.set i (dPut ks xs k x))) (hN : X.N[i]? = some n := by rfl) (hv : Vis X.env.scope n := by first | exact Or.inl rfl | exact Or.inr (Or.inl rfl) | exact Or.inr (Or.inr rfl))
    (hd : (n == ("__debug__" : Str)) = false := by decide) (hcd : (n == ("__classdict__" : Str)) = false := by decide) (hs : swapsWith e (some (.Subscript (.Name n p1) ix p2)) pos.line X.env = pure false := by rfl) :
    HS X F (.Assign [.Subscript (.Name n p1) ix p2] e pos) δ Φ := by
  refine PS.imp (ps_dput hu (pe_var (i := i) hN hv hd hcd) hix he hs) fun E σ H ⟨H0, S, c⟩ => ?_
  refine ⟨H0, S, fun v H1 H01 g1 r1 => ?_⟩
  obtain ⟨q, eq, h0, hb, o⟩ := (S.gr g1).own i _ hl rfl
  refine ⟨.ref q, eq, H01, S.gr g1, fun w H2 H02 g2 r2 => ?_⟩
  obtain ⟨vs, e2, hl2, r3⟩ := own_same (S.gr g1) g2 hl rfl eq
  have ew := keyD_rep hk (r2.o g2.ex)
  subst ew
  have r1' := Rep.mono g2.s0 _ _ r1
  have l3 := r3.length
  have lz : (ks.zip vs).length < sizeLine := by rw [sizeLine_eq, List.length_zip]; omega
  refine ⟨q, upd H2 q (.dK (putK (ks.zip vs) k v)), rfl, DPut.k e2 lz, ?_⟩
  refine c.nx σ _ H02 _ (g1.s0.trans g2.s0) (((S.gr g1).gr g2).mutate (l' := dPut ks xs k x) hl rfl eq (by unfold dPut; split <;> rfl) ?_) h
  unfold dPut
  cases hh : dHas ks k with
  | true =>
    obtain ⟨f1, f2⟩ := putK_zip r1' r3 hl2
    rw [if_pos rfl]
    refine ⟨_, ?_, by rw [List.length_map, List.length_zip]; omega, f2⟩
    rw [upd_same]
    unfold putK
    have : ((ks.zip vs).any fun kv => decide (kv.1 = k)) = true := by
      rw [valV_any, valV_zip0 r3 hl2]; exact hh
    rw [if_pos this, f1]
  | false =>
    rw [if_neg (by decide)]
    refine ⟨vs ++ [v], ?_, by rw [List.length_append, List.length_append, hl2]; rfl, r3.append (reps_cons r1' reps_nil)⟩
    rw [upd_same, putK_new v (by
      have := valV_zip0 (k := k) r3 hl2
      rw [hh] at this
      simpa using this)]
    rw [List.zip_append (by rw [hl2, l3])]
    rfl
/-- xs[j] = e -/
theorem hs_setItem (i : Nat) {n : Str} {p1 p2 : Pos} {j : Nat} {ix : Expr} (he : XE X F e δ x) (hix : XE X F ix δ (.int (j : Int))) (hl : δ[i]? = some (.L xs)) (hj : j < xs.length) (h : Φ.nx (δ.set i (.L (xs.set j x)))) (hN : X.N[i]? = some n := by rfl) (hv : Vis X.env.scope n := by first | exact Or.inl rfl | exact Or.inr (Or.inl rfl) | exact Or.inr (Or.inr rfl))
    (hd : (n == ("__debug__" : Str)) = false := by decide) (hcd : (n == ("__classdict__" : Str)) = false := by decide) (hs : swapsWithSole [.Subscript (.Name n p1) ix p2] e pos.line X.env = pure false := by rfl) (hw : swappedStores [.Subscript (.Name n p1) ix p2] e X.env = pure none := by rfl)
    (h1 : (assignEach [.Subscript (.Name n p1) ix p2] X.env).map (·.2) = [assign (.Subscript (.Name n p1) ix p2) X.env] := by rfl)
    (ha : ∀ v, assign (.Subscript (.Name n p1) ix p2) X.env v = (do
      let ov ← holding [v] (eval (.Name n p1) X.env)
      let iv ← holding [v, ov] (eval ix X.env)
      standAt p2
      holding [v, ov, iv] (setItem ov iv v)
      release [v, ov, iv] []) := by intro _; rfl) :
    HS X F (.Assign [.Subscript (.Name n p1) ix p2] e pos) δ Φ := by
  refine PS.imp (ps_asg he (pg_sub (pe_var (i := i) hN hv hd hcd) hix set_list ha) hs hw h1) fun E σ H ⟨H0, S, c⟩ => ?_
  refine ⟨H0, S, fun v H1 H01 g1 r1 => ?_⟩
  obtain ⟨q, eq, h0, hb, o⟩ := (S.gr g1).own i _ hl rfl
  refine ⟨.ref q, eq, H01, S.gr g1, fun w H2 H02 g2 r2 => ?_⟩
  obtain ⟨vs, e2, r3⟩ := own_same (S.gr g1) g2 hl rfl eq
  have l3 := r3.length
  refine ⟨q, vs, (j : Int), j, rfl, rep_int.mp r2, e2, by unfold ixN; rw [if_pos (by omega), if_pos (by omega)]; simp, ?_⟩
  exact c.nx σ _ H02 _ (g1.s0.trans g2.s0) (((S.gr g1).gr g2).mutate (l' := .L (xs.set j x)) hl rfl eq rfl ⟨_, upd_same, Reps.set (Rep.mono g2.s0 _ _ r1) j r3⟩) h

/-! ### loops -/
theorem hs_while {body : List Stmt} (inv : Nat → List LV → Prop) (m0 : Nat) (h0 : inv m0 δ)
    (hs : ∀ m d, inv m d → ∃ q, XT X F c d q ∧ (q = true → HSs X F body d { nx := fun d' => ∃ m', m' < m ∧ inv m' d', ct := fun d' => ∃ m', m' < m ∧ inv m' d', bk := Φ.nx, rt := Φ.rt }) ∧ (q = false → Φ.nx d))
    (hp : PassesOwn (model X.prog X.w) X.A X.env X.xe := by exact PassesOwn.never) : HS X F (.While c body [] pos) δ Φ := by
  have hc : PT X c (fun σ H Q => ∃ d q, XT X F c d q ∧ tT F d q σ H Q) := ⟨fun pins s σ H Q I ⟨d, q, h, k⟩ => h.run pins s σ H Q I k⟩
  refine PS.imp (ps_while hp hc (any_s (F := F))) fun E σ H ⟨H0, S, k⟩ => ?_
  refine ⟨fun m σ' H' => ∃ H0' d, SRep F H0' σ' H' d ∧ Same H0 H0' ∧ inv m d, ⟨m0, H0, δ, S, Same.refl _, h0⟩, ?_⟩
  rintro m σ1 H1 ⟨H01, d, S1, s1, i1⟩
  obtain ⟨q, hq, t1, t2⟩ := hs m d i1
  refine ⟨d, q, hq, H01, S1, fun H2 H02 g2 => ?_⟩
  cases q with
  | true =>
    refine ⟨fun σ' H' => ∃ H0' d, SRep F H0' σ' H' d ∧ Same H0 H0' ∧ ∃ m', m' < m ∧ inv m' d, fun σ' H' ⟨H0', d, S, s, m', lt, i⟩ => ⟨m', lt, H0', d, S, s, i⟩, ?_⟩
    have s2 := s1.trans g2.s0
    exact ⟨d, _, t1 rfl, H02, S1.gr g2, ⟨fun σ' H' H0' d' s S' m => ⟨H0', d', S', s2.trans s, m⟩, fun v σ' H' H0' d' x s S' r m => k.rt v σ' H' H0' d' x (s2.trans s) S' r m, fun σ' H' H0' d' s S' m => k.nx σ' H' H0' d' (s2.trans s) S' m, fun σ' H' H0' d' s S' m => ⟨H0', d', S', s2.trans s, m⟩⟩⟩
  | false => exact k.nx σ1 H2 H02 d (s1.trans g2.s0) (S1.gr g2) (t2 rfl)
theorem hs_for {body : List Stmt} {iter : Expr} {t : Tgt} (inv : Nat → List LV → Prop) (hi : XI X F tg iter δ xs) (hg : XG X F tg t) (h0 : inv 0 δ)
    (hs : ∀ i d x, xs[i]? = some x → inv i d → ∃ d', t.asg x d = some d' ∧ HSs X F body d' { nx := inv (i + 1), ct := inv (i + 1), bk := Φ.nx, rt := Φ.rt }) (hd : ∀ d, inv xs.length d → Φ.nx d)
    (hp : PassesOwn (model X.prog X.w) X.A X.env X.xe := by exact PassesOwn.never) (hc : X.calm = true := by rfl) (hf : ∀ x, foldedSetIterable iter X.env x = pure x := by intro _; rfl) : HS X F (.For tg iter body [] pos) δ Φ := by
  have hG : PG X tg (fun v σ H Q => ∃ d x d', t.asg x d = some d' ∧ tG F t.slots d x d' v σ H Q) := ⟨fun pins s σ H v u Q I r ⟨d, x, d', h, k⟩ => (hg d x d' h).run pins s σ H v u Q I r k⟩
  refine PS.imp (ps_for hp hc hi hG (any_s (F := F)) hf) fun E σ H ⟨H0, S, k⟩ => ?_
  refine ⟨H0, S, fun J H1 H01 g1 Y => ?_⟩
  refine ⟨fun i m σ' H' => m = xs.length - i ∧ i ≤ xs.length ∧ ∃ H0' d, SRep F H0' σ' H' d ∧ Same H01 H0' ∧ inv i d, ⟨xs.length, by simp, Nat.zero_le _, H01, δ, S.gr g1, Same.refl _, h0⟩, ?_⟩
  rintro i m σ2 H2 ⟨rfl, hi, H02, d, S2, s2, iv⟩
  obtain ⟨y1, y2⟩ := Y i H2 (s2.trans S2.ex)
  by_cases hlt : i < xs.length
  · obtain ⟨go, yl⟩ := y1 hlt
    have hxi : xs[i]? = some xs[i] := List.getElem?_eq_getElem hlt
    obtain ⟨d', ha, hb⟩ := hs i d xs[i] hxi iv
    refine .inr ⟨go, fun σ' H' => ∃ H0' d, SRep F H0' σ' H' d ∧ Same H01 H0' ∧ inv (i + 1) d, fun σ' H' ⟨H0', d, S', s', i'⟩ => ⟨xs.length - (i + 1), by omega, rfl, hlt, H0', d, S', s', i'⟩, fun v H3 hy => ?_⟩
    obtain ⟨H03, g3, r3⟩ : ∃ H03, Gr H02 H2 H03 H3 ∧ Rep F.T H03 xs[i] v := by
      rcases yl v H3 hy xs[i] hxi with ⟨rfl, r⟩ | ⟨p, us, ds, ex, rfl, hp, rfl, r⟩
      · exact ⟨H02, Gr.refl S2.ex, Rep.mono s2 _ _ r⟩
      · refine ⟨upd H02 p (.tup us), Gr.new S2.ex hp, ?_⟩
        rw [ex]
        exact rep_tup.mpr ⟨p, us, rfl, upd_same, Reps.mono (s2.trans (same_new (S2.ex.free hp))) _ _ r⟩
    refine ⟨d, xs[i], d', ha, H03, S2.gr g3, r3, fun us S4 => ?_⟩
    have s3 := s2.trans g3.s0
    have s0 := g1.s0.trans s3
    exact ⟨d', _, hb, H03, S4, ⟨fun σ' H' H0' d' s S' m => ⟨H0', d', S', s3.trans s, m⟩, fun v σ' H' H0' d' x s S' r m => k.rt v σ' H' H0' d' x (s0.trans s) S' r m, fun σ' H' H0' d' s S' m => k.nx σ' H' H0' d' (s0.trans s) S' m, fun σ' H' H0' d' s S' m => ⟨H0', d', S', s3.trans s, m⟩⟩⟩
  · have e : i = xs.length := by omega
    subst e
    exact .inl ⟨y2 rfl, k.nx σ2 H2 H02 d (g1.s0.trans s2) S2 (hd d iv)⟩
end

/-! ### a def keeps its promise -/
/-- the slots at the entry -/
def begun (N : List Str) (ds : List D) : List LV := ds.map .d ++ List.replicate (N.length - ds.length) .un
theorem start_ok {F : Fm} {N : List Str} {ds : List D} {vs : List V} (hZ : Same F.Z F.B) (r : Reps F.T F.Z ds vs) (hl : ds.length ≤ N.length) : SRep F F.Z (L2.start N vs) F.B (begun N ds) := by
  have l := r.length
  refine ⟨Same.refl _, hZ, Same.refl _, New.refl, by unfold begun L2.start; simp; omega, fun i x h => ?_, fun i m h io => ?_, fun i j m n a h1 o1 _ _ _ _ => ?_⟩
  · unfold begun at h
    by_cases q : i < ds.length
    · rw [List.getElem?_append_left (by simpa using q), List.getElem?_map, List.getElem?_eq_getElem q] at h
      have e : ds[i] = x := by simpa using h
      obtain ⟨v, e1, r1⟩ := r.get (List.getElem?_eq_getElem q)
      refine ⟨v, ?_, e ▸ r1⟩
      unfold L2.start
      rw [List.getElem?_append_left (by simp; omega), List.getElem?_map, e1]
      rfl
    · rw [List.getElem?_append_right (by simpa using q), List.getElem?_replicate] at h
      split at h <;> cases h
  · exfalso
    unfold begun at h
    by_cases q : i < ds.length
    · rw [List.getElem?_append_left (by simpa using q), List.getElem?_map, List.getElem?_eq_getElem q] at h
      cases h; cases io
    · rw [List.getElem?_append_right (by simpa using q), List.getElem?_replicate] at h
      split at h
      · cases h; cases io
      · cases h
  · exfalso
    unfold begun at h1
    by_cases q : i < ds.length
    · rw [List.getElem?_append_left (by simpa using q), List.getElem?_map, List.getElem?_eq_getElem q] at h1
      cases h1; cases o1
    · rw [List.getElem?_append_right (by simpa using q), List.getElem?_replicate] at h1
      split at h1
      · cases h1; cases o1
      · cases h1
section
variable {P : Program} {w : World} {K : PySem.W.Frag} {mg : Str → Option Value} {base : Heap} {n qual : Str} {params : Arguments} {body : List Stmt} {scope : Scope} {f : Addr} {fd : FuncData} {N ps : List Str} {k : Nat} {T : Addr} {pre : List D → D → Prop}
/-- the end wanted of a def's body that is to hand back x -/
abbrev ret (x : D) : DE := { nx := fun _ => x = .non, rt := fun y => y = x }
/-- the context of a def's body -/
abbrev cxF (P : Program) (w : World) (K : PySem.W.Frag) (mg : Str → Option Value) (base : Heap) (N : List Str) (qual : Str) (scope : Scope) (f : Addr) (cdv : Value) (A : Around) (outer : List Env) (s : Shared) (H : Hp) (E : XK) : Cx := (cxOf CX0 P w K mg base N qual scope f cdv A outer s H E).nox
theorem fn_ok (F : FunD K n qual params body scope [] [] f fd) (S : FnScope N ps scope) (hp : ∀ ds x, pre ds x → ds.length = ps.length)
    (h : ∀ (cdv : Value) (A : Around) (outer : List Env) (s : Shared) (H : Hp) (E : XK) (Z : Hp) (ds : List D) (x : D), pre ds x → Room k (cxF P w K mg base N qual scope f cdv A outer s H E).A → HSs (cxF P w K mg base N qual scope f cdv A outer s H E) ⟨T, P, w, H, Z⟩ body (begun N ds) (ret x)) :
    FnOk P w K mg base CX0 (k + 1) f fd ps (FSp T pre) := by
  refine F.ok S (fun vs H Q E ⟨Z, ds, x, _, r, q, _⟩ => by rw [r.length]; exact hp ds x q) fun cdv A outer s H vs Q E hr hsp => ?_
  obtain ⟨Z, ds, x, hZ, r, q, c⟩ := hsp
  refine ⟨_, (h cdv A outer s H E Z ds x q hr).nox, Z, ?_, ?_⟩
  · have hl : ps.length ≤ N.length := by have := congrArg List.length S.pre; rw [List.length_take] at this; omega
    exact start_ok (F := ⟨T, P, w, H, Z⟩) hZ r (by rw [hp ds x q]; exact hl)
  · refine ⟨fun σ' H' H0' δ' _ S' m => ?_, fun v σ' H' H0' δ' y _ S' r' m => ?_, fun _ _ _ _ _ _ m => m.elim, fun _ _ _ _ _ _ m => m.elim⟩
    · subst m
      exact c .non H' H0' S'.bb S'.zb S'.ex S'.fr (rep_non.mpr rfl)
    · subst m
      exact c v H' H0' S'.bb S'.zb S'.ex S'.fr r'
end
end Dl
end
section
set_option Elab.async false
set_option linter.all false
set_option maxRecDepth 100000
set_option maxHeartbeats 2000000
/-! Shorter forms. -/
namespace Dl
open PySem PySem.Spec PyProof.Rows L2
section
variable {X : Cx} {F : Fm} {δ : List LV} {a b c e o tg : Expr} {es : List Expr} {x y z : D} {pos p : Pos} {σ : L2.St} {H : Hp} {Φ : DE} {st : Stmt} {rest sa sb : List Stmt}
variable {α : Type} {iter elt : Expr} {ifs : List Expr} {scope : Scope}
theorem filter_t : ∀ (xs : List α), xs.filter (fun _ => true) = xs := fun xs => List.filter_eq_self.mpr fun _ _ => rfl
/-- [elt for tg in iter] -/
theorem l_map (own : List (Str × Nat)) (t : Tgt) (xs : List α) (enc : α → D) (g : α → D) (hN : X.N.Nodup) (hi : XI X F tg iter δ (xs.map enc)) (ok : BlkOk X.N X.env.scope scope own)
    (hg : ∀ (s : Shared) (H : Hp) (C : Addr) (cl : List (Str × Addr)) (fp : List Addr), XG (X.blk s H scope (compEnvC scope cl C X.env) fp) F tg t)
    (hx : ∀ x ∈ xs, ∃ δ', t.asg (enc x) δ = some δ' ∧ (∀ (s : Shared) (H : Hp) (C : Addr) (cl : List (Str × Addr)) (fp : List Addr), XE (X.blk s H scope (compEnvC scope cl C X.env) fp) F elt δ' (g x)))
    (hz : xs.length ≤ 1000000) (hu : unAll δ (own.map (·.2)) = true := by rfl) (hsl : ∀ i ∈ t.slots, i ∈ own.map (·.2) := by decide) (hc : X.calm = true := by rfl) (hs : ∀ x, foldedSetIterable iter X.env x = pure x := by intro _; rfl) :
    XL X F (.ListComp elt [⟨tg, iter, [], 0⟩] scope pos) δ (xs.map g) :=
  XL.eq (l_lc own t xs enc (fun _ => true) g hN hi ok hg (fun x hm => let ⟨d, h1, h2⟩ := hx x hm; ⟨d, h1, fun _ _ _ _ _ => ts_nil, fun _ => h2⟩) hz hu hsl hc hs) (by rw [filter_t])
/-- y = [elt for tg in iter] on one line -/
theorem hs_setMap (i : Nat) {n : Str} {p2 cpos : Pos} (own : List (Str × Nat)) (t : Tgt) (xs : List α) (enc : α → D) (g : α → D) (hN : X.N.Nodup) (hi : XI X F tg iter δ (xs.map enc)) (ok : BlkOk X.N X.env.scope scope own)
    (hg : ∀ (s : Shared) (H : Hp) (C : Addr) (cl : List (Str × Addr)) (fp : List Addr), XG (X.blk s H scope (compEnvC scope cl C X.env) fp) F tg t)
    (hx : ∀ x ∈ xs, ∃ δ', t.asg (enc x) δ = some δ' ∧ (∀ (s : Shared) (H : Hp) (C : Addr) (cl : List (Str × Addr)) (fp : List Addr), XE (X.blk s H scope (compEnvC scope cl C X.env) fp) F elt δ' (g x)))
    (hz : xs.length ≤ 1000000) (h : Φ.nx (δ.set i (.L (xs.map g)))) (hy : X.N[i]? = some n := by rfl) (hyl : X.env.scope.names.lookup n = some .local := by rfl) (hsw : swapsWith (.ListComp elt [⟨tg, iter, [], 0⟩] scope cpos) (some (.Name n p2)) pos.line X.env = pure true := by exact sw_true rfl rfl rfl (by decide +kernel))
    (hu : unAll δ (own.map (·.2)) = true := by rfl) (hsl : ∀ i ∈ t.slots, i ∈ own.map (·.2) := by decide) (hc : X.calm = true := by rfl) (hs : ∀ x, foldedSetIterable iter X.env x = pure x := by intro _; rfl) :
    HS X F (.Assign [.Name n p2] (.ListComp elt [⟨tg, iter, [], 0⟩] scope cpos) pos) δ Φ :=
  hs_setLc i own t xs enc (fun _ => true) g hN hi ok hg (fun x hm => let ⟨d, h1, h2⟩ := hx x hm; ⟨d, h1, fun _ _ _ _ _ => ts_nil, fun _ => h2⟩) hz (by rw [filter_t]; exact h) hy hyl hsw hu hsl hc hs
theorem any_id (xs : List α) (f : α → Bool) : (xs.map f).any id = xs.any f := by rw [List.any_map]; rfl
theorem all_id (xs : List α) (f : α → Bool) : (xs.map f).all id = xs.all f := by rw [List.all_map]; rfl
theorem x_anyM (xs : List α) (f : α → Bool) (hm : X.mg "any" = none) (ha : XR X F a δ (.lst (xs.map fun k => .bl (f k)))) (hc : X.calm = true := by rfl) (hg : Gl X "any" := by rfl) (h1 : starEach [a] X.env = (false, eval a X.env) :: starEach [] X.env := by rfl) : XE X F (.Call (.Name "any" p) [a] [] pos) δ (.bl (xs.any f)) := by
  rw [← any_id]
  refine x_any hm ?_ hc hg h1
  rw [List.map_map]
  exact ha
theorem x_allM (xs : List α) (f : α → Bool) (hm : X.mg "all" = none) (ha : XR X F a δ (.lst (xs.map fun k => .bl (f k)))) (hc : X.calm = true := by rfl) (hg : Gl X "all" := by rfl) (h1 : starEach [a] X.env = (false, eval a X.env) :: starEach [] X.env := by rfl) : XE X F (.Call (.Name "all" p) [a] [] pos) δ (.bl (xs.all f)) := by
  rw [← all_id]
  refine x_all hm ?_ hc hg h1
  rw [List.map_map]
  exact ha
end
end Dl
end
section
set_option Elab.async false
set_option linter.all false
set_option maxRecDepth 100000
set_option maxHeartbeats 2000000
/-! One turn of a strict zip of two sources. -/
namespace Zn
open PySem
open Sem (wp)
/-- a strict zip object: its own record, the pair of its iterators, the pair that it hands out -/
structure ZipAt (h : Heap) (z TI TO i1 i2 : Addr) (f0 a b : Value) : Prop where
  ob : h.get? z = some { cls := .type "zip", data := .fields #[f0, .bool false, .bool true, .ref TI, .ref TO] }
  ti : IsTupOf2 h TI (.ref i1) (.ref i2)
  to : IsTupOf2 h TO a b
def Kept (L : List Addr) (h h' : Heap) : Prop := ∀ c o, c ∉ L → h.get? c = some o → h'.get? c = some o
variable {prog : Program} {w : World} {A : Around} {E : Value → Shared → Prop} {s : Shared} {z TI TO i1 i2 : Addr} {fp1 fp2 : List Addr} {n i : Nat} {P1 P2 : Nat → Value → Prop} {St1 St2 : Nat → Heap → Prop} {a1 a2 : Value}
theorem more {it : Addr} {Q : Option Value → Shared → Prop} (D : Draws prog w A it fp1 n P1 St1) (hi : i < n) (st : St1 i s.heap) (k : ∀ x h' tk, P1 i x → St1 (i + 1) h' → Heap.SameBut it s.heap h' → Q (some x) { s with heap := h', toks := tk }) :
    wpAny (model prog w) A (Builtin.SmallTypes.nextOrEnd (.ref it)) Q E s :=
  wpAny_bind (wpAny_attempt (D.item i s _ _ hi st fun x h' tk p q sb => wpAny_pure (k x h' tk p q sb)))
theorem nomore {it : Addr} {Q : Option Value → Shared → Prop} (D : Draws prog w A it fp1 n P1 St1) (st : St1 n s.heap) (k : ∀ h', Heap.ExtBut it s.heap h' → Q none { s with heap := h' }) :
    wpAny (model prog w) A (Builtin.SmallTypes.nextOrEnd (.ref it)) Q E s :=
  wpAny_bind (wpAny_attempt (D.done s _ _ st fun h' e q ⟨o, ho, hc⟩ => wpAny_bind (wpAny_isInstance (b := true) ⟨o, ho, hc⟩ isSubtype_stop (wpAny_pure (k h' q)))))
theorem zip_item {Q : PySem.Fin → Shared → Prop} (S : ZipSep2 z TI TO i1 i2 fp1 fp2) (D1 : Draws prog w A i1 fp1 n P1 St1) (D2 : Draws prog w A i2 fp2 n P2 St2) (Z : ZipAt s.heap z TI TO i1 i2 .none a1 a2) (st1 : St1 i s.heap) (st2 : St2 i s.heap) (hi : i < n)
    (k : ∀ x y h' tk, P1 i x → P2 i y → ZipAt h' z TI TO i1 i2 (rawInt s.heap.objs.size) x y → St1 (i + 1) h' → St2 (i + 1) h' → IsTupOf2 h' s.heap.objs.size x y → h'.objs.size = s.heap.objs.size + 1 → Kept [z, TO, i1, i2] s.heap h' → Q (.done (.ret (.ref s.heap.objs.size))) { s with heap := h', toks := tk }) :
    wpAny (model prog w) A (Builtin.«zip.__next__» ⟨[.ref z], []⟩) Q E s := by
  obtain ⟨hz, hTI, hTO⟩ := Z
  have n1 := S.TOz
  have n2 := S.TOz.symm
  unfold Builtin.«zip.__next__»
  wp_walk using wpAny_onRaise, more D1 hi
  · exact D1.over st1 (Heap.SameBut.update ..) S.zf1
  intro x h1 tk1 p1 q1 sb1
  have t1 : IsTupOf2 h1 TO a1 a2 := (sb1.2 TO S.Ti1).trans ((Heap.get?_update_other _ _ n2).trans hTO)
  have z1 : h1.get? z = some { cls := .type "zip", data := .fields #[.ellipsis, .bool false, .bool true, .ref TI, .ref TO] } := (sb1.2 z S.zi1).trans (Heap.get?_update_self _ hz rfl)
  wp_walk using wpAny_onRaise, more D2 hi
  · exact D2.over (D2.over (D2.over st2 (Heap.SameBut.update ..) S.zf2) sb1 S.sep1_2) (Heap.SameBut.update ..) S.Tf2
  intro y h2 tk2 p2 q2 sb2
  have t2 : IsTupOf2 h2 TO x a2 := (sb2.2 TO S.Ti2).trans (Heap.get?_update_self _ t1 rfl)
  have z2 : h2.get? z = some { cls := .type "zip", data := .fields #[.ellipsis, .bool false, .bool true, .ref TI, .ref TO] } := (sb2.2 z S.zi2).trans ((Heap.get?_update_other _ _ n1).trans z1)
  have sz : (h2.update TO (Obj.mapSeq fun v => v.setIfInBounds (0 + 1) y)).objs.size = s.heap.objs.size :=
    (Heap.SameBut.update ..).1.trans (sb2.1.trans ((Heap.SameBut.update ..).1.trans (sb1.1.trans (Heap.SameBut.update ..).1)))
  wp_walk
  rw [← sz] at k
  let hA : Heap := h2.update TO (Obj.mapSeq fun v => v.setIfInBounds (0 + 1) y)
  let hB : Heap := hA.push { cls := .type "tuple", data := .seq #[x, y] }
  let hC : Heap := (hB.update z (Obj.mapFields fun v => v.setIfInBounds 0 (rawInt hA.objs.size))).update z (Obj.mapFields fun v => v.setIfInBounds 1 (.bool false))
  have zB : hB.get? z = some { cls := .type "zip", data := .fields #[.ellipsis, .bool false, .bool true, .ref TI, .ref TO] } := Heap.get?_push_of_some _ ((Heap.get?_update_other _ _ n1).trans z2)
  have up : ∀ c, c ≠ z → hC.get? c = hB.get? c := fun c e => (Heap.get?_update_other _ _ (Ne.symm e)).trans (Heap.get?_update_other _ _ (Ne.symm e))
  have keep : ∀ c o, c ≠ z → hA.get? c = some o → hC.get? c = some o := fun c o e q => (up c e).trans (Heap.get?_push_of_some _ q)
  have all : Kept [z, TO, i1, i2] s.heap hC := fun c o hc e => by
    simp only [List.mem_cons, List.not_mem_nil, or_false, not_or] at hc
    obtain ⟨c1, c2, c3, c4⟩ := hc
    exact keep c o c1 ((Heap.get?_update_other _ _ (Ne.symm c2)).trans ((sb2.2 c c4).trans ((Heap.get?_update_other _ _ (Ne.symm c2)).trans ((sb1.2 c c3).trans ((Heap.get?_update_other _ _ (Ne.symm c1)).trans e)))))
  have zl : hA.objs.size ≠ z := fun e => by
    have := Heap.lt_size ((Heap.get?_update_other h2 (Obj.mapSeq fun v => v.setIfInBounds (0 + 1) y) n1).trans z2)
    exact absurd (show hA.objs.size = z from e) (Nat.ne_of_gt this)
  refine k x y hC tk2 p1 p2 ⟨Heap.get?_update_self _ (Heap.get?_update_self _ zB rfl) rfl, ?_, keep TO _ n1 (Heap.get?_update_self _ t2 rfl)⟩ ?_ ?_ ((up _ zl).trans (Heap.get?_push_size _ rfl)) ?_ all
  · exact all TI _ (by simp [S.TIz, S.TITO, S.TIi1, S.TIi2]) hTI
  · exact D1.frame _ hA _ (D1.over (D1.over (D1.over q1 (Heap.SameBut.update ..) S.Tf1) sb2 S.sep2_1) (Heap.SameBut.update ..) S.Tf1) fun b hb o e => keep b o (fun q => S.zf1 (q ▸ hb)) e
  · exact D2.frame _ hA _ (D2.over q2 (Heap.SameBut.update ..) S.Tf2) fun b hb o e => keep b o (fun q => S.zf2 (q ▸ hb)) e
  · exact (Heap.SameBut.update ..).1.trans ((Heap.SameBut.update ..).1.trans (Heap.size_push ..))
/-- both sources have ended -/
theorem zip_end {Q : PySem.Fin → Shared → Prop} (hh : A.handled = none) (S : ZipSep2 z TI TO i1 i2 fp1 fp2) (D1 : Draws prog w A i1 fp1 n P1 St1) (D2 : Draws prog w A i2 fp2 n P2 St2) (Z : ZipAt s.heap z TI TO i1 i2 .none a1 a2) (st1 : St1 n s.heap) (st2 : St2 n s.heap) (hf : ∀ b ∈ fp2, b ≠ z ∧ b ≠ i1)
    (k : ∀ h' tk e, Kept [z, TO, i1, i2] s.heap h' → (∃ o, h'.get? e = some o ∧ o.cls = .type "StopIteration") → E (.ref e) { s with heap := h', toks := tk }) :
    wpAny (model prog w) A (Builtin.«zip.__next__» ⟨[.ref z], []⟩) Q E s := by
  obtain ⟨hz, hTI, hTO⟩ := Z
  have n1 := S.TOz
  have n2 := S.TOz.symm
  unfold Builtin.«zip.__next__»
  wp_walk using wpAny_onRaise, nomore D1
  · exact D1.over st1 (Heap.SameBut.update ..) S.zf1
  intro h1 x1
  have z1 : h1.get? z = some { cls := .type "zip", data := .fields #[.ellipsis, .bool false, .bool true, .ref TI, .ref TO] } := x1 z _ S.zi1 (Heap.get?_update_self _ hz rfl)
  wp_walk using nomore D2
  · refine D2.frame _ _ _ st2 fun b hb o e => ?_
    obtain ⟨b1, b2⟩ := hf b hb
    exact (Heap.get?_update_other _ _ (Ne.symm b1)).trans (x1 b o b2 ((Heap.get?_update_other _ _ (Ne.symm b1)).trans e))
  intro h2 x2
  wp_walk
  refine wpAny_raiseNew_none hh (k _ _ _ (fun c o hc e => ?_) ⟨_, Heap.get?_push_size _ rfl, rfl⟩)
  simp only [List.mem_cons, List.not_mem_nil, or_false, not_or] at hc
  obtain ⟨c1, c2, c3, c4⟩ := hc
  exact Heap.get?_push_of_some _ (Heap.get?_push_of_some _ (x2 c o c4 ((Heap.get?_update_other _ _ (Ne.symm c1)).trans (x1 c o c3 ((Heap.get?_update_other _ _ (Ne.symm c1)).trans e)))))
end Zn
end
section
set_option Elab.async false
set_option linter.all false
set_option maxRecDepth 100000
set_option maxHeartbeats 2000000
/-! The strict zip at work: its turn under next(), its letting go, its making. -/
namespace Zn
open PySem
open Sem (wp)
section
variable {prog : Program} {w : World} {A : Around} {E : Value → Shared → Prop} {s : Shared}
/-- one next(): the iterator's own rule either gives a value or ends -/
theorem next_by {it : Addr} {T id : String} {B : Builtin} {Q : Option Value → Shared → Prop} (hT : s.TypeIs (.ref it) T) (sl : Slot T (Str.ofString "__next__") id) (en : entryFor table id = some B) (ok : argsOk id ⟨[.ref it], []⟩)
    (h : wpAny (model prog w) A.in1 (B ⟨[.ref it], []⟩) (fun f s' => ∃ v, f = .done (.ret v) ∧ Q (some v) s') (fun e s' => (∃ a o, e = .ref a ∧ s'.heap.get? a = some o ∧ o.cls = .type "StopIteration") ∧ Q none s') s) :
    wpAny (model prog w) A (pyNext (.ref it)) Q E s := by
  unfold pyNext
  refine wpAny_bind (wpAny_attempt (wpAny_callSpecial?_slot hT sl (wpAny_call_entry sl hT en (wpAny_mono h ?_ ?_) ok)))
  · rintro f s' ⟨v, rfl, q⟩
    exact ⟨v, rfl, wpAny_pure q⟩
  · rintro e s' ⟨⟨a, o, rfl, ho, hc⟩, q⟩
    exact wpAny_bind (wpAny_isInstance ⟨o, ho, hc⟩ isSubtype_stop (wpAny_pure q))
end
section
variable {prog : Program} {w : World} {A : Around} {E : Value → Shared → Prop} {s : Shared} {z TI TO i1 i2 T : Addr} {f0 a b : Value}
theorem ZipAt.typ (Z : ZipAt s.heap z TI TO i1 i2 f0 a b) : s.TypeIs (.ref z) "zip" := ⟨_, Z.ob, rfl⟩
theorem ZipAt.go {elts : List Expr} {k : Nat} {p : Pos} {Q : Unit → Shared → Prop} (d1 : TI ≠ z) (d2 : TO ≠ z) (Z : ZipAt s.heap z TI TO i1 i2 (rawInt T) a b) (h : ∀ h', ZipAt h' z TI TO i1 i2 .none a b → Heap.SameBut z s.heap h' → Q () { s with heap := h' }) :
    wpAny (model prog w) A (letOwnedTupleGo (.Tuple elts k p) (.ref z) (.ref T)) Q E s := by
  obtain ⟨hz, h1, h2⟩ := Z
  unfold letOwnedTupleGo
  wp_walk
  exact h _ ⟨Heap.get?_update_self _ hz rfl, (Heap.get?_update_other _ _ (Ne.symm d1)).trans h1, (Heap.get?_update_other _ _ (Ne.symm d2)).trans h2⟩ (Heap.SameBut.update ..)
theorem ZipAt.own {Q : Value → Shared → Prop} (Z : ZipAt s.heap z TI TO i1 i2 f0 a b) (h : Q (.ref z) s) : wpAny (model prog w) A (pyIter (.ref z)) Q E s :=
  wpAny_pyIter_slot Z.typ F.slot_zip_iter (wpAny_call_entry F.slot_zip_iter Z.typ F.entry_zip_iter (wpAny_pure ⟨_, rfl, _, _, Z.typ, F.slot_zip_next.lookup, h⟩) (F.args_zip_iter_1 _))
end
/-! ### new cells, one after the other -/
def plus (h : Heap) (os : List Obj) : Heap := os.foldl Heap.push h
theorem plus_size : ∀ (os : List Obj) (h : Heap), (plus h os).objs.size = h.objs.size + os.length
  | [], _ => rfl
  | o :: os, h => by
    show (plus (h.push o) os).objs.size = _
    rw [plus_size os, Heap.size_push, List.length_cons]
    omega
theorem plus_old : ∀ (os : List Obj) {h : Heap} {c : Addr} {o : Obj}, h.get? c = some o → (plus h os).get? c = some o
  | [], _, _, _, e => e
  | _ :: os, _, _, _, e => plus_old os (Heap.get?_push_of_some _ e)
theorem plus_get : ∀ (os : List Obj) {h : Heap} {j : Nat} {o : Obj}, os[j]? = some o → o.isFreed = false → (plus h os).get? (h.objs.size + j) = some o
  | [], _, _, _, e, _ => by cases e
  | p :: os, h, 0, o, e, f => by
    cases e
    exact plus_old os (Heap.get?_push_size _ f)
  | p :: os, h, j + 1, o, e, f => by
    have := plus_get os (h := h.push p) (j := j) e f
    rwa [Heap.size_push, Nat.add_assoc, Nat.add_comm 1 j] at this
/-! ### zip(u, v, strict=True) -/
abbrev kwStrict : List (Str × Value) := [(Str.ofString "strict", .bool true)]
/-- what comes: two iterators, the pair of them, the pair to hand out, the zip -/
def zipCells (n : Nat) (o1 o2 : Obj) : List Obj :=
  [o1, o2, { cls := .type "tuple", data := .seq #[.ref n, .ref (n + 1)] }, { cls := .type "tuple", data := .seq #[.none, .none] }, { cls := .type "zip", data := .fields #[.none, .bool false, .bool true, .ref (n + 2), .ref (n + 3)] }]
theorem zip_new {u v : Value} {o1 o2 : Obj} {H1 H2 : Heap → Prop} (B1 : Begins u o1 H1) (B2 : Begins v o2 H2) :
    Meets (Builtin.«zip.__new__» ⟨[.type "zip", u, v], kwStrict⟩) fun _ R s => (H1 s.heap ∧ H2 s.heap) ∧ R (.ok (.ret (.ref (s.heap.objs.size + 4)))) { s with heap := plus s.heap (zipCells s.heap.objs.size o1 o2) } := by
  refine .of_wp fun prog w A R s ⟨⟨h1, h2⟩, k⟩ => ?_
  have sub := sub_zip
  have k2 := B2.keeps _ _ h2 fun c o e => Heap.get?_push_of_some o1 e
  wp_walk using B1.iter _ _ _ _ s _ h1, B2.iter _ _ _ _ { s with heap := s.heap.push o1 } _ k2
  refine ⟨_, rfl, ?_⟩
  simp only [Heap.size_push]
  exact k
section
variable {prog : Program} {w : World} {A : Around} {E : Value → Shared → Prop} {s : Shared}
theorem zip_made {u v : Value} {o1 o2 : Obj} {H1 H2 : Heap → Prop} {Q : Value → Shared → Prop} (B1 : Begins u o1 H1) (B2 : Begins v o2 H2) (h1 : H1 s.heap) (h2 : H2 s.heap)
    (k : Q (.ref (s.heap.objs.size + 4)) { s with heap := plus s.heap (zipCells s.heap.objs.size o1 o2) }) : wpAny (model prog w) A (call (.type "zip") [u, v] kwStrict) Q E s :=
  callType_newKw F.called_zip (by decide) (by kernel_rfl) (by kernel_rfl) (fun _ => by unfold argsOk; kernel_rfl) F.entry_zip_new (zip_new B1 B2) ⟨⟨h1, h2⟩, ⟨_, plus_get (zipCells _ o1 o2) (j := 4) rfl rfl, rfl⟩, k⟩
theorem zip_cells {h : Heap} {o1 o2 : Obj} (f1 : o1.isFreed = false) (f2 : o2.isFreed = false) :
    ZipAt (plus h (zipCells h.objs.size o1 o2)) (h.objs.size + 4) (h.objs.size + 2) (h.objs.size + 3) h.objs.size (h.objs.size + 1) .none .none .none ∧
      (plus h (zipCells h.objs.size o1 o2)).get? h.objs.size = some o1 ∧ (plus h (zipCells h.objs.size o1 o2)).get? (h.objs.size + 1) = some o2 :=
  ⟨⟨plus_get _ (j := 4) rfl rfl, plus_get _ (j := 2) rfl rfl, plus_get _ (j := 3) rfl rfl⟩, plus_get (zipCells _ o1 o2) (j := 0) rfl f1, plus_get (zipCells _ o1 o2) (j := 1) rfl f2⟩
end
end Zn
end
section
set_option Elab.async false
set_option linter.all false
set_option maxRecDepth 100000
set_option maxHeartbeats 400000
/-! Iterators told by the objects of their cells; the sources that a strict zip and enumerate draw from. -/
namespace Zn
open PySem PySem.Spec PyProof.Rows L2
/-! ### cells and their objects -/
inductive Stand (h : Heap) : List Addr → List Obj → Prop
  | nil : Stand h [] []
  | cons {c : Addr} {o : Obj} {cs : List Addr} {os : List Obj} : h.get? c = some o → Stand h cs os → Stand h (c :: cs) (o :: os)
theorem Stand.get {h : Heap} {cs : List Addr} {os : List Obj} (st : Stand h cs os) {c : Addr} (m : c ∈ cs) : ∃ o ∈ os, h.get? c = some o := by
  induction st with
  | nil => cases m
  | cons e _ ih =>
    cases m with
    | head => exact ⟨_, List.mem_cons_self, e⟩
    | tail _ m => exact let ⟨p, a, b⟩ := ih m; ⟨p, List.mem_cons_of_mem _ a, b⟩
theorem Stand.keep {h h' : Heap} {cs : List Addr} {os : List Obj} (st : Stand h cs os) (k : ∀ c ∈ cs, ∀ o, h.get? c = some o → h'.get? c = some o) : Stand h' cs os := by
  induction st with
  | nil => exact .nil
  | cons e _ ih => exact .cons (k _ List.mem_cons_self _ e) (ih fun c m => k c (List.mem_cons_of_mem _ m))
/-- at turn i the cells hold objects that are right for the turn -/
def Told (cs : List Addr) (good : Nat → List Obj → Prop) (i : Nat) (h : Heap) : Prop := ∃ os, good i os ∧ Stand h cs os
def NoCell (o : Obj) : Prop := ∀ v, o.data ≠ .cell v
theorem Told.low {cs : List Addr} {good : Nat → List Obj → Prop} {i : Nat} {h : Heap} (t : Told cs good i h) {c : Addr} (m : c ∈ cs) : c < h.objs.size :=
  let ⟨_, _, st⟩ := t; let ⟨_, _, e⟩ := st.get m; Heap.lt_size e
/-- a turn from what it does: the cells' part is the same for each iterator -/
theorem turn_told {P : Program} {w : World} {K : PySem.W.Frag} {tg : Expr} {J : It} {it : Addr} {cs : List Addr} {good : Nat → List Obj → Prop} (m : it ∈ cs) (nc : ∀ i os, good i os → ∀ o ∈ os, NoCell o)
    (self : ∀ (A : Around) (i : Nat) (s : Shared) (Q E : Value → Shared → Prop), Told cs good i s.heap → Q (.ref it) s → wpAny (model P w) A (pyIter (.ref it)) Q E s)
    (item : ∀ (X : Cx), X.prog = P → X.w = w → X.K = K → X.A.handled = none → ∀ i pins s σ H (E : Value → Shared → Prop), Inv X pins σ H s → Told cs good i s.heap → J.go i H →
      wpAny (model P w) X.A (pyNext (.ref it)) (fun r s1 => ∃ u, r = some u ∧ wpAny (model P w) X.A (letOwnedTupleGo tg (.ref it) u) (fun _ s2 => Told cs good (i + 1) s2.heap ∧ ∃ (os : List V) (us : List Value),
        Vals os us ∧ os.length = 2 ∧ u = .ref s.heap.objs.size ∧ s2.heap.get? s.heap.objs.size = some { cls := .type "tuple", data := .seq us.toArray } ∧ (∃ h t, s2 = { s with heap := h, toks := t }) ∧ (∀ c o, c ∉ cs → s.heap.get? c = some o → s2.heap.get? c = some o) ∧
          (H s.heap.objs.size = none → J.yld i H (.ref s.heap.objs.size) (upd H s.heap.objs.size (.tup os)))) E s1) E s)
    (done : ∀ (X : Cx), X.prog = P → X.w = w → X.K = K → X.A.handled = none → ∀ i pins s σ H (E : Value → Shared → Prop), Inv X pins σ H s → Told cs good i s.heap → J.stop i H →
      wpAny (model P w) X.A (pyNext (.ref it)) (fun r s1 => r = none ∧ ∃ h t, s1 = { s with heap := h, toks := t } ∧ ∀ c o, c ∉ cs → s.heap.get? c = some o → h.get? c = some o) E s) :
    Turn P w K tg J cs it (Told cs good) where
  mem := m
  obj := fun i h ⟨os, g, st⟩ c hc => let ⟨o, a, e⟩ := st.get hc; ⟨o, e, nc i os g o a⟩
  keep := fun i h h' ⟨os, g, st⟩ k => ⟨os, g, st.keep k⟩
  self := self
  item := fun X a b c hc i pins s σ H E I fp t go => by
    refine wpAny_mono (item X a b c (I.ok.hd hc) i pins s σ H E I t go) (fun r s1 ⟨u, e, q⟩ => ⟨u, e, wpAny_mono q (fun _ s2 ⟨t', os, us, rv, two, eu, new, ⟨h, k, e2⟩, kp, y⟩ => ?_) fun _ _ z => z⟩) fun _ _ z => z
    subst a b c eu e2
    have fresh := I.hok.fresh (Nat.le_refl _)
    have two' : os.length ≤ sizeLine := two ▸ (by decide)
    have ok : ObjOk X.prog X.w (upd H s.heap.objs.size (.tup os)) h s.heap.objs.size (.tup os) := ⟨two', us, rv, ⟨_, new, rfl, _, rfl⟩⟩
    exact ⟨.ref s.heap.objs.size, _, I.turnedNew (t' := k) kp fp (Nat.le_refl _) ok, rfl, y fresh, t', fun b m => (upd_ne (Nat.ne_of_lt (t.low m))).trans (fp b m).1⟩
  done := fun X a b c hc i pins s σ H E I fp t stop =>
    wpAny_mono (done X a b c (I.ok.hd hc) i pins s σ H E I t stop) (fun r s1 ⟨e, h, k, e1, kp⟩ => ⟨e, by subst e1; exact I.turnedL (t' := k) kp fp⟩) fun _ _ z => z
/-! ### sources: a tuple, a text -/
inductive Src (K : PySem.W.Frag) (H : Hp) : V → (Hp → List V → Prop) → Prop
  | tup (a : Addr) (xs : List V) : SqT K H a xs → Src K H (.ref a) fun H' ys => SqT K H' a ys
  | str (x : Str) : Src K H (.str x) fun _ ys => ys = x.cps.toList.map fun c => .str ⟨#[c]⟩
/-- what an iterator over a source gives -/
structure Feeds (P : Program) (w : World) (K : PySem.W.Frag) (it : Addr) (fp : List Addr) (S : Hp → List V → Prop) (g : Nat → Obj → Prop) : Prop where
  plain : ∀ i o, g i o → NoCell o
  draws : ∀ (X : Cx), X.prog = P → X.w = w → X.K = K → ∀ pins s σ H (A : Around), Inv X pins σ H s → A.handled = none → ∀ i xs o, S H xs → s.heap.get? it = some o → g i o →
    ∃ St, Draws P w A it fp xs.length (fun j u => ∃ v, RelV v u ∧ ∀ ys, S H ys → ys[j]? = some v) St ∧ St i s.heap ∧ ∀ j h, St j h → ∃ o', h.get? it = some o' ∧ g j o'
theorem Src.begins {X : Cx} {pins : List (Addr × Obj)} {s : Shared} {σ : L2.St} {H : Hp} {v : V} {u : Value} {S : Hp → List V → Prop} (I : Inv X pins σ H s) (r : RelV v u) (c : Src X.K H v S) :
    ∃ o fp B, Begins u o B ∧ B s.heap ∧ (∀ b ∈ fp, b < s.heap.objs.size) ∧ ∀ it, it ∉ fp → ∃ g, Feeds X.prog X.w X.K it (it :: fp) S g ∧ g 0 o := by
  cases c with
  | tup a xs hq =>
    cases r
    obtain ⟨its, rv, p, _⟩ := I.tuple hq
    have low : a < s.heap.objs.size := let ⟨o, e, _⟩ := p; Heap.lt_size e
    refine ⟨_, [a], _, begins_tuple a its.toArray, p, fun b m => ?_, fun it ni => ?_⟩
    · cases List.mem_singleton.mp m
      exact low
    refine ⟨fun i o => o.cls = .type "tuple_iterator" ∧ o.data = .fields #[.ref a, .int i 0], { plain := ?_, draws := ?_ }, rfl, rfl⟩
    · intro i o e v e'
      rw [e.2] at e'
      cases e'
    · intro X' eP ew eK pins' s' σ' H' A I' hh i ys o hS e g
      rw [← eK] at hS
      rw [← eP, ← ew, ← eK]
      obtain ⟨its', rv', p', _⟩ := I'.tuple hS
      have D := Draws.tuple (prog := X'.prog) (w := X'.w) (A := A) hh it a (fun e => ni (by rw [e]; exact List.mem_singleton.mpr rfl)) its'.toArray
      have ln : its'.toArray.size = ys.length := by rw [List.size_toArray]; exact rv'.length.symm
      rw [ln] at D
      refine ⟨_, { live := D.live, frame := D.frame, item := fun j s2 Q2 E2 hj st k => D.item j s2 Q2 E2 hj st fun x h2 tk hx => k x h2 tk ?_, done := D.done }, ⟨⟨o, e, g⟩, p'⟩, fun j h st => st.1⟩
      obtain ⟨u, hu, ru⟩ := rv'.get (List.getElem?_eq_getElem hj)
      rw [List.getElem?_toArray, hu] at hx
      cases hx
      exact ⟨_, ru, fun zs hz => by rw [I'.tuple_inj hz hS]; exact List.getElem?_eq_getElem hj⟩
  | str x =>
    obtain ⟨t, rfl⟩ := r
    refine ⟨_, [], _, begins_text x t, trivial, fun b m => absurd m List.not_mem_nil, fun it ni => ?_⟩
    refine ⟨fun i o => o.cls = .type (strIterType x) ∧ o.data = .fields #[.str x t, .int i 0], { plain := ?_, draws := ?_ }, rfl, rfl⟩
    · intro i o e v e'
      rw [e.2] at e'
      cases e'
    · intro X' eP ew eK pins' s' σ' H' A I' hh i ys o hS e g
      subst hS
      rw [← eP, ← ew, List.length_map, Array.length_toList]
      have D := Draws.text (prog := X'.prog) (w := X'.w) (A := A) hh it x t
      refine ⟨_, { live := D.live, frame := D.frame, item := fun j s2 Q2 E2 hj st k => D.item j s2 Q2 E2 hj st fun v h2 tk hx => k v h2 tk ?_, done := D.done }, ⟨o, e, g⟩, fun j h st => st⟩
      obtain ⟨c, n, hc, rfl⟩ := hx
      exact ⟨.str ⟨#[c]⟩, ⟨n, rfl⟩, fun zs hz => by rw [hz, List.getElem?_map, Array.getElem?_toList, hc]; rfl⟩
end Zn
end
section
set_option Elab.async false
set_option linter.all false
set_option maxRecDepth 100000
set_option maxHeartbeats 1000000
/-! for over zip(u, v, strict=True) and over enumerate(u), u and v a tuple or a text. -/
namespace Zn
open PySem PySem.Spec PyProof.Rows L2
def ItZ (S1 S2 : Hp → List V → Prop) : It :=
  ⟨fun i H => ∃ xs ys, S1 H xs ∧ S2 H ys ∧ ys.length = xs.length ∧ i < xs.length,
    fun i H v H' => ∃ T x y, v = .ref T ∧ H T = none ∧ H' = upd H T (.tup [x, y]) ∧ (∀ xs, S1 H xs → xs[i]? = some x) ∧ ∀ ys, S2 H ys → ys[i]? = some y,
    fun i H => ∃ xs ys, S1 H xs ∧ S2 H ys ∧ xs.length = i ∧ ys.length = i⟩
def goodZ (TI TO i1 i2 : Addr) (g1 g2 : Nat → Obj → Prop) (i : Nat) (os : List Obj) : Prop :=
  ∃ a b o1 o2, g1 i o1 ∧ g2 i o2 ∧ os = [{ cls := .type "zip", data := .fields #[.none, .bool false, .bool true, .ref TI, .ref TO] }, { cls := .type "tuple", data := .seq #[.ref i1, .ref i2] }, { cls := .type "tuple", data := .seq #[a, b] }, o1, o2]
/-- a zip at turn i, its parts in hand -/
theorem told_zip {z TI TO i1 i2 : Addr} {g1 g2 : Nat → Obj → Prop} {i : Nat} {h : Heap} : Told [z, TI, TO, i1, i2] (goodZ TI TO i1 i2 g1 g2) i h ↔ ∃ a b o1 o2, ZipAt h z TI TO i1 i2 .none a b ∧ h.get? i1 = some o1 ∧ h.get? i2 = some o2 ∧ g1 i o1 ∧ g2 i o2 := by
  constructor
  · intro ⟨_, ⟨a, b, o1, o2, p, q, e⟩, st⟩
    subst e
    obtain ⟨⟩ | ⟨e1, st⟩ := st
    obtain ⟨⟩ | ⟨e2, st⟩ := st
    obtain ⟨⟩ | ⟨e3, st⟩ := st
    obtain ⟨⟩ | ⟨e4, st⟩ := st
    obtain ⟨⟩ | ⟨e5, st⟩ := st
    exact ⟨a, b, o1, o2, ⟨e1, e2, e3⟩, e4, e5, p, q⟩
  · rintro ⟨a, b, o1, o2, ⟨e1, e2, e3⟩, e4, e5, p, q⟩
    exact ⟨_, ⟨a, b, o1, o2, p, q, rfl⟩, .cons e1 (.cons e2 (.cons e3 (.cons e4 (.cons e5 .nil))))⟩
theorem kept_all {z TI TO i1 i2 c : Addr} (h : c ∉ [z, TI, TO, i1, i2]) : c ∉ [z, TO, i1, i2] := fun m => h (by simp only [List.mem_cons] at m ⊢; rcases m with e | e | e | e | e <;> simp_all)
theorem turn_zip {P : Program} {w : World} {K : PySem.W.Frag} {elts : List Expr} {k : Nat} {p : Pos} {z TI TO i1 i2 : Addr} {fp1 fp2 : List Addr} {g1 g2 : Nat → Obj → Prop} {S1 S2 : Hp → List V → Prop} (S : ZipSep2 z TI TO i1 i2 fp1 fp2)
    (F1 : Feeds P w K i1 fp1 S1 g1) (F2 : Feeds P w K i2 fp2 S2 g2) (hf : ∀ b ∈ fp2, b ≠ z ∧ b ≠ i1) : Turn P w K (.Tuple elts k p) (ItZ S1 S2) [z, TI, TO, i1, i2] z (Told [z, TI, TO, i1, i2] (goodZ TI TO i1 i2 g1 g2)) := by
  refine turn_told List.mem_cons_self ?_ ?_ ?_ ?_
  · rintro i _ ⟨a, b, o1, o2, p, q, rfl⟩ o m v e
    simp only [List.mem_cons, List.not_mem_nil, or_false] at m
    rcases m with rfl | rfl | rfl | rfl | rfl
    · cases e
    · cases e
    · cases e
    · exact F1.plain _ _ p v e
    · exact F2.plain _ _ q v e
  · intro A i s Q E t q
    obtain ⟨a, b, o1, o2, Z, _⟩ := told_zip.mp t
    exact Z.own q
  · intro X eP ew eK hh i pins s σ H E I t ⟨xs, ys, m1, m2, hl, hi⟩
    obtain ⟨a, b, o1, o2, Z, e1, e2, p1, p2⟩ := told_zip.mp t
    obtain ⟨St1, D1, s1, b1⟩ := F1.draws X eP ew eK pins s σ H X.A.in1 I hh i xs o1 m1 e1 p1
    obtain ⟨St2, D2, s2, b2⟩ := F2.draws X eP ew eK pins s σ H X.A.in1 I hh i ys o2 m2 e2 p2
    rw [hl] at D2
    refine next_by Z.typ F.slot_zip_next F.entry_zip_next (F.args_zip_next_1 _) (zip_item S D1 D2 Z s1 s2 hi ?_)
    rintro x y h' tk ⟨v, rv, hv⟩ ⟨u, ru, hu⟩ Z' t1 t2 hT hs kp
    refine ⟨_, rfl, _, rfl, Z'.go S.TIz S.TOz fun h2 Z2 sb => ⟨told_zip.mpr ?_, [v, u], [x, y], .cons rv (.cons ru .nil), rfl, rfl, ?_, ⟨h2, tk, rfl⟩, fun c o nc e => ?_, fun fr => ⟨_, v, u, rfl, fr, rfl, hv, hu⟩⟩⟩
    · obtain ⟨q1, c1, d1⟩ := b1 _ _ t1
      obtain ⟨q2, c2, d2⟩ := b2 _ _ t2
      exact ⟨x, y, q1, q2, Z2, (sb.2 _ (Ne.symm S.zi1)).trans c1, (sb.2 _ (Ne.symm S.zi2)).trans c2, d1, d2⟩
    · exact (sb.2 _ (Nat.ne_of_gt (t.low List.mem_cons_self))).trans hT
    · exact (sb.2 _ (fun e => nc (e ▸ List.mem_cons_self))).trans (kp c o (kept_all nc) e)
  · intro X eP ew eK hh i pins s σ H E I t ⟨xs, ys, m1, m2, l1, l2⟩
    obtain ⟨a, b, o1, o2, Z, e1, e2, p1, p2⟩ := told_zip.mp t
    obtain ⟨St1, D1, s1, b1⟩ := F1.draws X eP ew eK pins s σ H X.A.in1 I hh i xs o1 m1 e1 p1
    obtain ⟨St2, D2, s2, b2⟩ := F2.draws X eP ew eK pins s σ H X.A.in1 I hh i ys o2 m2 e2 p2
    rw [l1] at D1
    rw [l2] at D2
    refine next_by Z.typ F.slot_zip_next F.entry_zip_next (F.args_zip_next_1 _) (zip_end (A := X.A.in1) hh S D1 D2 Z s1 s2 hf ?_)
    intro h' tk e kp ⟨o, ho, hc⟩
    exact ⟨⟨e, o, rfl, ho, hc⟩, rfl, h', tk, rfl, fun c o nc q => kp c o (kept_all nc) q⟩
/-! ### the call -/
section
variable {M : Model} {A : Around} {E : Value → Shared → Prop} {s : Shared}
theorem type_call {pos : Pos} {T : String} {args : List (Bool × Sem Value)} {kws : List (Option Str × Sem Value)} {Q : Value → Shared → Prop} (ns : args.any (·.1) = false) (nk : kws.any (·.1.isNone) = false)
    (h : wpAny M A (evalArgs (.type T) true args kws) (fun a s1 => wpAny M A (call (.type T) a.pos a.kw) Q E s1) E s) : wpAny M A (callWith pos (.type T) [] args kws) Q E s := by
  unfold callWith
  refine wpAny_bind (wpAny_holding (wpAny_mono h (fun a s1 k => ?_) fun _ _ e => e))
  simp only [ns, nk, List.nil_append]
  wp_walk using wpAny_mono k
  case hQ =>
    intro v s2 q
    wp_walk
    exact q
  all_goals exact fun _ _ e => e
end
/-- both sources of a strict zip -/
def iZip2 (K : PySem.W.Frag) (ta : TA) : TI := fun σ H R => ta σ H fun vs H1 => ∃ u v S1 S2, vs = [u, v] ∧ Src K H1 u S1 ∧ Src K H1 v S2 ∧ R (ItZ S1 S2) H1
theorem two_vals {u v : V} {us : List Value} (r : Vals [u, v] us) : ∃ a b, us = [a, b] ∧ RelV u a ∧ RelV v b :=
  match us, r with
  | _, .cons p (.cons q .nil) => ⟨_, _, rfl, p, q⟩
theorem new_ok {X : Cx} {pins : List (Addr × Obj)} {σ : L2.St} {H : Hp} {s : Shared} (I : Inv X pins σ H s) {cs : List Addr} (h : ∀ c ∈ cs, s.heap.objs.size ≤ c) : ∀ c ∈ cs, FpOk X pins H c := fun c m => I.fpOk (h c m) (I.hok.fresh (h c m))
theorem apart {n : Nat} {fp : List Nat} (l : ∀ b ∈ fp, b < n) : ∀ c ∈ (n + 1) :: fp, c ≠ n + 4 ∧ c ≠ n := by
  intro c m
  rcases List.mem_cons.mp m with e | m
  · omega
  · have := l c m
    omega
theorem five (n : Nat) : ∀ c ∈ [n + 4, n + 2, n + 3, n, n + 1], n ≤ c := by simp
theorem eval_zip {X : Cx} {e e2 : Expr} {p pos kp cp : Pos} {ix : Nat} {pins : List (Addr × Obj)} {s : Shared} {σ : L2.St} {H : Hp} {Q E : Value → Shared → Prop} (I : Inv X pins σ H s) (hg : Gl X "zip") (hm : X.mg "zip" = none)
    (h1 : starEach [e, e2] X.env = (false, eval e X.env) :: starEach [e2] X.env) (pl : (backTo pos (starEach [e2] X.env)).any (·.1) = false)
    (h : wpAny (model X.prog X.w) X.A (spliced (backTo pos (starEach [e, e2] X.env))) (fun us s1 => wpAny (model X.prog X.w) X.A (call (.type "zip") us kwStrict) Q E s1) E s) :
    wpAny (model X.prog X.w) X.A (eval (.Call (.Name "zip" p) [e, e2] [⟨some "strict", .Constant (.bool true) ix cp, kp⟩] pos) X.env) Q E s := by
  have plain : (backTo pos (starEach [e, e2] X.env)).any (·.1) = false := by rw [h1]; exact pl
  refine wpAny_Call_Name_kw (ld_blt I hg hm PyProof.Rows.boot_zip (type_call plain rfl (evalArgs_kw2 rfl (wpAny_mono h (fun us s1 k => kwAll_cons ?_) fun _ _ x => x) h1)))
  rw [eval_Constant]
  exact wpAny_pure (kwAll_nil k)
theorem pi_zip {X : Cx} {e e2 : Expr} {ta : TA} {p pos tpos kp cp : Pos} {elts : List Expr} {k ix : Nat} (hg : Gl X "zip") (hm : X.mg "zip" = none) (ha : PA X [e, e2] ta)
    (h1 : starEach [e, e2] X.env = (false, eval e X.env) :: starEach [e2] X.env) (pl : (backTo pos (starEach [e2] X.env)).any (·.1) = false) :
    PI X (.Tuple elts k tpos) (.Call (.Name "zip" p) [e, e2] [⟨some "strict", .Constant (.bool true) ix cp, kp⟩] pos) (iZip2 X.K ta) where
  run pins s σ H R I h := by
    refine eval_zip I hg hm h1 pl (thn (ha.run pos pins s σ H _ I h) fun us s1 ⟨vs, H1, I1, r1, q1⟩ => ?_)
    obtain ⟨u, v, S1, S2, rfl, c1, c2, q⟩ := q1
    obtain ⟨a, b, rfl, ra, rb⟩ := two_vals r1
    obtain ⟨o1, fp1, _, g1, b1, l1, f1⟩ := c1.begins I1 ra
    obtain ⟨o2, fp2, _, g2, b2, l2, f2⟩ := c2.begins I1 rb
    have I2 : Inv X pins σ H1 { s1 with heap := plus s1.heap (zipCells s1.heap.objs.size o1 o2) } := I1.kept (t' := s1.toks) fun c o e => plus_old _ e
    obtain ⟨Z, e1, e2⟩ := zip_cells (h := s1.heap) g1.free g2.free
    obtain ⟨t1, F1, p1⟩ := f1 s1.heap.objs.size fun m => Nat.lt_irrefl _ (l1 _ m)
    obtain ⟨t2, F2, p2⟩ := f2 (s1.heap.objs.size + 1) fun m => Nat.not_succ_lt_self (l2 _ m)
    refine zip_made g1 g2 b1 b2 (Z.own ⟨_, _, _, _, H1, rfl, I2, turn_zip (zip_sep2 l1 l2) F1 F2 (apart l2), told_zip.mpr ⟨_, _, o1, o2, Z, e1, e2, p1, p2⟩, new_ok I1 (five _), q⟩)
/-! ### enumerate -/
theorem pure_any {M : Model} {A : Around} {E : Value → Shared → Prop} {s : Shared} {α : Type} {a : α} {Q : α → Shared → Prop} (h : ∀ a, Q a s) : wpAny M A (pure a) Q E s := wpAny_pure (h a)
def enumCells (n : Nat) (o : Obj) : List Obj := [o, { cls := .type "enumerate", data := .fields #[.none, .bool false, .ref n, rawInt 0, .none, .none] }]
theorem enum_new {v : Value} {o : Obj} {B : Heap → Prop} (b : Begins v o B) :
    Meets (Builtin.«enumerate.__new__» ⟨[.type "enumerate", v], []⟩) fun _ R s => B s.heap ∧ R (.ok (.ret (.ref (s.heap.objs.size + 1)))) { s with heap := plus s.heap (enumCells s.heap.objs.size o) } := by
  refine .of_wp fun prog w A R s ⟨h, k⟩ => ?_
  have sub := sub_enumerate
  have fin : ∃ u, Fin.done (Flow.ret (Value.ref (s.heap.push o).objs.size)) = Fin.done (Flow.ret u) ∧ R (.ok (.ret u)) { s with heap := plus s.heap (enumCells s.heap.objs.size o) } := ⟨_, rfl, by rw [Heap.size_push]; exact k⟩
  have it := fun (A' : Around) (E : Value → Shared → Prop) Q => b.iter prog w A' E s Q h
  wp_walk
  refine wpAny_stack_any fun st => pure_any fun short => ?_
  cases short <;> wp_walk using it <;> exact fin
section
variable {prog : Program} {w : World} {A : Around} {E : Value → Shared → Prop} {s : Shared}
theorem enum_made {v : Value} {o : Obj} {B : Heap → Prop} {Q : Value → Shared → Prop} (b : Begins v o B) (h : B s.heap) (k : Q (.ref (s.heap.objs.size + 1)) { s with heap := plus s.heap (enumCells s.heap.objs.size o) }) :
    wpAny (model prog w) A (call (.type "enumerate") [v]) Q E s :=
  callType_new F.called_enumerate (by decide) (F.typeCall_enumerate_1 _) (F.newCall_enumerate_1 _) (fun _ => F.args_object_init_2 _ _) F.entry_enumerate_new (enum_new b) ⟨h, ⟨_, plus_get (enumCells _ o) (j := 1) rfl rfl, rfl⟩, k⟩
end
def ItE (S : Hp → List V → Prop) : It :=
  ⟨fun i H => ∃ xs, S H xs ∧ i < xs.length, fun i H v H' => ∃ T x, v = .ref T ∧ H T = none ∧ H' = upd H T (.tup [.int (i : Nat), x]) ∧ ∀ xs, S H xs → xs[i]? = some x, fun i H => ∃ xs, S H xs ∧ xs.length = i⟩
def goodE (it : Addr) (g : Nat → Obj → Prop) (i : Nat) (os : List Obj) : Prop :=
  ∃ old o, g i o ∧ os = [{ cls := .type "enumerate", data := .fields #[.none, .bool false, .ref it, rawInt (i : Nat), .none, old] }, o]
theorem told_enum {e it : Addr} {g : Nat → Obj → Prop} {i : Nat} {h : Heap} : Told [e, it] (goodE it g) i h ↔ ∃ old o, IsEnum h e it (i : Nat) old ∧ h.get? it = some o ∧ g i o := by
  constructor
  · intro ⟨_, ⟨a, o, p, e⟩, st⟩
    subst e
    obtain ⟨⟩ | ⟨e1, st⟩ := st
    obtain ⟨⟩ | ⟨e2, st⟩ := st
    exact ⟨a, o, e1, e2, p⟩
  · rintro ⟨a, o, e1, e2, p⟩
    exact ⟨_, ⟨a, o, p, rfl⟩, .cons e1 (.cons e2 .nil)⟩
theorem turn_enum {P : Program} {w : World} {K : PySem.W.Frag} {elts : List Expr} {k : Nat} {p : Pos} {e it : Addr} {fp : List Addr} {g : Nat → Obj → Prop} {S : Hp → List V → Prop} (ne : e ≠ it) (nf : e ∉ fp) (F1 : Feeds P w K it fp S g) :
    Turn P w K (.Tuple elts k p) (ItE S) [e, it] e (Told [e, it] (goodE it g)) := by
  refine turn_told List.mem_cons_self ?_ ?_ ?_ ?_
  · rintro i _ ⟨a, o, p, rfl⟩ o' m v q
    rcases List.mem_cons.mp m with rfl | m
    · cases q
    · cases List.mem_singleton.mp m
      exact F1.plain _ _ p v q
  · intro A i s Q E t q
    obtain ⟨a, o, e1, _⟩ := told_enum.mp t
    exact wpAny_pyIter_enum e1 q
  · intro X eP ew eK hh i pins s σ H E I t ⟨xs, m1, hi⟩
    obtain ⟨a, o, e1, e2, p1⟩ := told_enum.mp t
    obtain ⟨St, D, s1, b1⟩ := F1.draws X eP ew eK pins s σ H X.A.in1 I hh i xs o m1 e2 p1
    refine wpAny_pyNext_enum_itemD D e1 s1 hi ne nf ?_
    rintro x h' tk ⟨v, rv, hv⟩ out t1 hT hs kp
    refine ⟨_, rfl, wpAny_letOwnedTupleGo_enum (s := { s with heap := h', toks := tk + 1 }) out fun h2 e3 sb => ⟨told_enum.mpr ?_, [.int (i : Nat), v], [.int i tk, x], .cons ⟨tk, rfl⟩ (.cons rv .nil), rfl, rfl, ?_, ⟨h2, tk + 1, rfl⟩, fun c o nc q => ?_, fun fr => ⟨_, v, rfl, fr, rfl, hv⟩⟩⟩
    · obtain ⟨o', c1, d1⟩ := b1 _ _ t1
      exact ⟨x, o', e3, (sb.2 _ (Ne.symm ne)).trans c1, d1⟩
    · exact (sb.2 _ (Nat.ne_of_gt (t.low List.mem_cons_self))).trans hT
    · have n1 : c ≠ e := fun z => nc (z ▸ List.mem_cons_self)
      exact (sb.2 _ n1).trans (kp c o n1 (fun z => nc (z ▸ List.mem_cons_of_mem _ List.mem_cons_self)) q)
  · intro X eP ew eK hh i pins s σ H E I t ⟨xs, m1, l1⟩
    obtain ⟨a, o, e1, e2, p1⟩ := told_enum.mp t
    obtain ⟨St, D, s1, b1⟩ := F1.draws X eP ew eK pins s σ H X.A.in1 I hh i xs o m1 e2 p1
    rw [l1] at D
    exact wpAny_pyNext_enum_endD D e1 s1 fun h' x => ⟨rfl, h', s.toks, rfl, fun c o nc q => x c o (fun z => nc (z ▸ List.mem_cons_of_mem _ List.mem_cons_self)) q⟩
def iEnum1 (K : PySem.W.Frag) (ta : TA) : TI := fun σ H R => ta σ H fun vs H1 => ∃ u S, vs = [u] ∧ Src K H1 u S ∧ R (ItE S) H1
theorem pi_enum {X : Cx} {e : Expr} {ta : TA} {p pos tpos : Pos} {elts : List Expr} {k : Nat} (hg : Gl X "enumerate") (hm : X.mg "enumerate" = none) (ha : PA X [e] ta) (hs : starEach [e] X.env = [(false, eval e X.env)]) :
    PI X (.Tuple elts k tpos) (.Call (.Name "enumerate" p) [e] [] pos) (iEnum1 X.K ta) where
  run pins s σ H R I h := by
    refine Call_ (ld_blt I hg hm boot_enumerate (callWith_type1 (thn (ha.run pos pins s σ H _ I h) fun us s1 ⟨vs, H1, I1, r1, q1⟩ => ?_) hs rfl))
    obtain ⟨u, S, rfl, c, q⟩ := q1
    obtain ⟨a, rfl, ra⟩ := r1.one
    obtain ⟨o, fp, _, g, b, l, f⟩ := c.begins I1 ra
    obtain ⟨t, F1, p1⟩ := f s1.heap.objs.size fun m => Nat.lt_irrefl _ (l _ m)
    have I2 : Inv X pins σ H1 { s1 with heap := plus s1.heap (enumCells s1.heap.objs.size o) } := I1.kept (t' := s1.toks) fun c o e => plus_old _ e
    have e1 : IsEnum (plus s1.heap (enumCells s1.heap.objs.size o)) (s1.heap.objs.size + 1) s1.heap.objs.size (0 : Nat) .none := plus_get (enumCells _ o) (j := 1) rfl rfl
    refine enum_made g b (wpAny_pyIter_enum e1 ⟨_, _, _, _, H1, rfl, I2, turn_enum (Nat.succ_ne_self _) ?_ F1, told_enum.mpr ⟨_, o, e1, plus_get (enumCells _ o) (j := 0) rfl g.free, p1⟩, new_ok I1 ?_, q⟩)
    · intro m
      rcases List.mem_cons.mp m with z | m
      · exact Nat.succ_ne_self _ z
      · exact Nat.not_succ_lt_self (l _ m)
    · intro c m
      rcases List.mem_cons.mp m with rfl | m
      · exact Nat.le_succ _
      · exact Nat.le_of_eq (List.mem_singleton.mp m).symm
end Zn
end
section
set_option Elab.async false
set_option linter.all false
set_option maxRecDepth 100000
set_option maxHeartbeats 1000000
/-! set(l), l a list of ints. -/
namespace Zn
open PySem PySem.Spec PyProof.Rows L2
def bareSet (w : World) : Obj := { cls := .type "set", dict := none, data := .set #[] 0 (.fresh 0 0 (!w.params.followText "set-order")) }
section
variable {P : Program} {w : World} {A : Around} {E : Value → Shared → Prop} {s : Shared}
/-- set(v) is: a bare set, then its __init__ on v -/
theorem set_call {v : Value} {Q : Value → Shared → Prop} (h : codeAny (model P w) A.in1 (.call (.builtin "set.__init__") ⟨[.ref s.heap.objs.size, v], []⟩) (wants (fun r s2 => r = .none ∧ Q (.ref s.heap.objs.size) s2) E) { s with heap := s.heap.push (bareSet w) }) :
    wpAny (model P w) A (call (.type "set") [v]) Q E s := by
  have ft := F.called_set
  obtain ⟨_, _, f1⟩ := ft.mro
  have f2 := ft.made
  have f3 := ft.sub
  have f4 := ft.notType
  have f5 := ft.canCreate
  have f6 := F.typeCall_set_1 v
  have f7 := ft.init.lookup
  have f8 := ft.init.bind (.ref s.heap.objs.size)
  refine wpAny_call (codeAny_of_tree ?_)
  wp_walk
  have under := Around.under_plain (A := A) (weight_type_call_type "set" [v] []) rfl
  refine ⟨Code.quiet_builtin _ (by decide +kernel), codeAny_builtin F.entry_type_call (under ▸ ?_)⟩
  wp_walk
  refine codeAny_mono (code_set_led1 v (E := E) (Q₁ := fun r s1 => r = .ref s.heap.objs.size ∧ s1 = { s with heap := s.heap.push (bareSet w) }) ⟨rfl, rfl⟩) ?_
  rintro (e | f) s1 k
  · exact k
  cases f <;> try exact k.elim
  obtain ⟨rfl, rfl⟩ := k
  have f9 : Shared.TypeIs { s with heap := s.heap.push (bareSet w) } (.ref s.heap.objs.size) "set" := ⟨_, Heap.get?_push_size _ rfl, rfl⟩
  wp_walk
  refine codeAny_mono h ?_
  rintro (e | f) s2 k
  · exact k
  cases f <;> try exact k.elim
  obtain ⟨rfl, q⟩ := k
  wp_walk
  exact q
theorem set_ints {l : Addr} {items : Array Value} (ns : List Int) {Q : Value → Shared → Prop} (hh : A.handled = none) (hl : s.heap.IsList l items) (hi : IntsAre items.toList ns) (room : ns.length + 1 < scanBound)
    (k : ∀ h' tk c, SetR w h' s.heap.objs.size (fun j => decide (j ∈ ns)) c → c ≤ ns.length → (∀ b o, s.heap.get? b = some o → h'.get? b = some o) → Q (.ref s.heap.objs.size) { s with heap := h', toks := tk }) :
    wpAny (model P w) A (call (.type "set") [.ref l]) Q E s := by
  have ln : items.size = ns.length := (Array.length_toList).symm.trans hi.length
  have lo : l < s.heap.objs.size := let ⟨_, e, _⟩ := hl; Heap.lt_size e
  have e0 : (s.heap.push (bareSet w)).get? s.heap.objs.size = some (bareSet w) := Heap.get?_push_size _ rfl
  have l1 : Heap.IsList (s.heap.push (bareSet w)) l items := hl.push _
  obtain ⟨⟨_, _, _, _⟩, el, rfl, _, rfl⟩ := id l1
  have n1 := F.sub_list_set
  have n2 := F.sub_list_frozenset
  have n3 : (Value.type "list" == Value.type "dict") = false := by decide
  refine set_call (codeAny_call_builtin F.called_set.init.plain F.entry_set_init (check_set_init_1 ⟨_, e0, rfl⟩ ?_))
  unfold Builtin.«set.__init__»
  wp_walk using wpAny_pyIter_list l1
  have h3 : A.in1.in1.in1.handled = none := by simp [hh]
  have sz : (s.heap.push (bareSet w)).objs.size = s.heap.objs.size + 1 := Heap.size_push ..
  have ne : l ≠ (s.heap.push (bareSet w)).objs.size := fun e => Nat.lt_irrefl _ (Nat.lt_trans (e ▸ lo) (sz ▸ Nat.lt_succ_self _))
  refine set_update_ints (Walks.list h3 _ l ne items).toS s.heap.objs.size (fun m => ?_) ns ln room (fun i v e => ?_) _ 0 _ rfl (Nat.zero_le _) ⟨⟨_, Heap.get?_push_size _ rfl, rfl, rfl⟩, l1.push _⟩ ⟨0, Nat.le_refl _, setR_new_at (Heap.get?_push_of_some _ e0)⟩ fun s' c mv hc r => ?_
  · rcases List.mem_cons.mp m with e | m
    · exact Nat.succ_ne_self _ (sz.symm.trans e.symm)
    · exact absurd lo (by rw [List.mem_singleton.mp m]; exact Nat.lt_irrefl _)
  · have lt : i < ns.length := ln ▸ (Array.getElem?_eq_some_iff.mp e).1
    obtain ⟨t, et⟩ := hi.get i _ (List.getElem?_eq_getElem lt)
    rw [Array.getElem?_toList, e] at et
    cases et
    exact ⟨_, t, List.getElem?_eq_getElem lt, rfl⟩
  · obtain ⟨h', g, d, tk, os⟩ := s'
    obtain rfl : g = s.gens := mv.gens
    obtain rfl : d = s.drawn := mv.drawn
    obtain rfl : os = s.os := mv.os
    refine wpAny_pure (wpAny_pure ⟨rfl, k h' tk c r (ln ▸ hc) fun b o e => mv.heap b o ?_ (Heap.get?_push_of_some _ (Heap.get?_push_of_some _ e))⟩)
    have lb := Heap.lt_size e
    intro m
    rcases List.mem_cons.mp m with z | m
    · exact Nat.lt_irrefl _ (z ▸ lb)
    · have z := List.mem_singleton.mp m
      exact Nat.lt_irrefl _ (Nat.lt_trans (z ▸ lb) (sz ▸ Nat.lt_succ_self _))
end
end Zn
end
section
set_option Elab.async false
set_option linter.all false
set_option maxRecDepth 100000
set_option maxHeartbeats 2000000
/-! zip, enumerate, == of data, chains, sorted, slices, join. -/
namespace Dl
open PySem PySem.Spec PyProof.Rows L2
section
variable {X : Cx} {F : Fm} {δ : List LV} {a b c e o tg : Expr} {es : List Expr} {x y z : D} {pos p : Pos} {σ : L2.St} {H : Hp} {xs ys : List D}

/-! ### zip, enumerate -/
def zipD (xs ys : List D) : List D := (xs.zip ys).map fun q => .tup [q.1, q.2]
theorem i_zipTT {elts : List Expr} {kk ix : Nat} {tpos kp cp : Pos} (hm : X.mg "zip" = none) (ha : XE X F a δ (.tup xs)) (hb : XE X F b δ (.tup ys)) (hl : xs.length = ys.length) (hg : Gl X "zip" := by rfl)
    (h1 : starEach [a, b] X.env = (false, eval a X.env) :: starEach [b] X.env := by rfl) (h2 : starEach [b] X.env = (false, eval b X.env) :: starEach [] X.env := by rfl) (hpl : (backTo pos (starEach [b] X.env)).any (·.1) = false := by rfl) :
    XI X F (.Tuple elts kk tpos) (.Call (.Name "zip" p) [a, b] [⟨some "strict", .Constant (.bool true) ix cp, kp⟩] pos) δ (zipD xs ys) :=
  PI.imp (Zn.pi_zip hg hm (a_cons ha (a_cons hb a_nil h2) h1) h1 hpl) fun σ H R ⟨H0, S, k⟩ => ⟨H0, S, fun vs H' H0' g r => by
    obtain ⟨v, w, rfl, r1, r2⟩ := r.two
    obtain ⟨q1, us, rfl, e1, rs1⟩ := rep_tup.mp r1
    obtain ⟨q2, ws, rfl, e2, rs2⟩ := rep_tup.mp r2
    have l1 := rs1.length
    have l2 := rs2.length
    refine ⟨_, _, _, _, rfl, .tup q1 us (SqT.of (g.ex _ _ e1)), .tup q2 ws (SqT.of (g.ex _ _ e2)), k _ H' H0' g fun i H2 s => ?_⟩
    have s1 : SqT X.K H2 q1 us := SqT.of (s _ _ e1)
    have s2 : SqT X.K H2 q2 ws := SqT.of (s _ _ e2)
    have lz : (zipD xs ys).length = us.length := by unfold zipD; simp; omega
    refine ⟨fun hi => ⟨⟨us, ws, s1, s2, by omega, by omega⟩, fun v H3 hy z hz => ?_⟩, fun hi => ⟨us, ws, s1, s2, by omega, by omega⟩⟩
    obtain ⟨T, u, w, rfl, hT, rfl, f1, f2⟩ := hy
    unfold zipD at hz
    rw [List.getElem?_map, (List.getElem?_zip_eq_some (z := (xs[i]'(by omega), ys[i]'(by omega)))).mpr ⟨List.getElem?_eq_getElem _, List.getElem?_eq_getElem _⟩] at hz
    cases hz
    obtain ⟨u', e3, r3⟩ := rs1.get (List.getElem?_eq_getElem (show i < xs.length by omega))
    obtain ⟨w', e4, r4⟩ := rs2.get (List.getElem?_eq_getElem (show i < ys.length by omega))
    cases Option.some.inj (e3.symm.trans (f1 us s1))
    cases Option.some.inj (e4.symm.trans (f2 ws s2))
    exact .inr ⟨T, _, _, rfl, rfl, hT, rfl, reps_cons r3 (reps_cons r4 reps_nil)⟩⟩
theorem i_zipST {elts : List Expr} {kk ix : Nat} {tpos kp cp : Pos} {s : Str} (hm : X.mg "zip" = none) (ha : XE X F a δ (.str s)) (hb : XE X F b δ (.tup ys)) (hl : s.cps.size = ys.length) (hg : Gl X "zip" := by rfl)
    (h1 : starEach [a, b] X.env = (false, eval a X.env) :: starEach [b] X.env := by rfl) (h2 : starEach [b] X.env = (false, eval b X.env) :: starEach [] X.env := by rfl) (hpl : (backTo pos (starEach [b] X.env)).any (·.1) = false := by rfl) :
    XI X F (.Tuple elts kk tpos) (.Call (.Name "zip" p) [a, b] [⟨some "strict", .Constant (.bool true) ix cp, kp⟩] pos) δ (zipD (signs s) ys) :=
  PI.imp (Zn.pi_zip hg hm (a_cons ha (a_cons hb a_nil h2) h1) h1 hpl) fun σ H R ⟨H0, S, k⟩ => ⟨H0, S, fun vs H' H0' g r => by
    obtain ⟨v, w, rfl, r1, r2⟩ := r.two
    cases (rep_str.mp r1)
    obtain ⟨q2, ws, rfl, e2, rs2⟩ := rep_tup.mp r2
    have l2 := rs2.length
    refine ⟨_, _, _, _, rfl, .str s, .tup q2 ws (SqT.of (g.ex _ _ e2)), k _ H' H0' g fun i H2 sm => ?_⟩
    have s2 : SqT X.K H2 q2 ws := SqT.of (sm _ _ e2)
    have ls : (signs s).length = s.cps.size := by unfold signs; simp
    have lz : (zipD (signs s) ys).length = ws.length := by unfold zipD; simp; omega
    have lm : (s.cps.toList.map fun c => V.str ⟨#[c]⟩).length = s.cps.size := by simp
    refine ⟨fun hi => ⟨⟨_, ws, rfl, s2, by omega, by omega⟩, fun v H3 hy z hz => ?_⟩, fun hi => ⟨_, ws, rfl, s2, by omega, by omega⟩⟩
    obtain ⟨T, u, w, rfl, hT, rfl, f1, f2⟩ := hy
    unfold zipD at hz
    have hs : i < s.cps.size := by omega
    have es : (signs s)[i]? = some (.str (sg s.cps[i])) := by
      unfold signs
      rw [List.getElem?_map, Array.getElem?_toList, Array.getElem?_eq_getElem hs]; rfl
    rw [List.getElem?_map, (List.getElem?_zip_eq_some (z := (.str (sg s.cps[i]), ys[i]'(by omega)))).mpr ⟨es, List.getElem?_eq_getElem _⟩] at hz
    cases hz
    obtain ⟨w', e4, r4⟩ := rs2.get (List.getElem?_eq_getElem (show i < ys.length by omega))
    have f3 := f1 _ rfl
    rw [List.getElem?_map, Array.getElem?_toList, Array.getElem?_eq_getElem hs] at f3
    cases Option.some.inj f3
    cases Option.some.inj (e4.symm.trans (f2 ws s2))
    exact .inr ⟨T, _, _, rfl, rfl, hT, rfl, reps_cons (rep_str.mpr rfl) (reps_cons r4 reps_nil)⟩⟩
def enumD (xs : List D) : List D := xs.zipIdx.map fun q => .tup [.int (q.2 : Nat), q.1]
theorem enumD_get {xs : List D} {i : Nat} {z : D} (h : (enumD xs)[i]? = some z) : ∃ x, xs[i]? = some x ∧ z = .tup [.int (i : Nat), x] := by
  unfold enumD at h
  rw [List.getElem?_map, List.getElem?_zipIdx] at h
  cases q : xs[i]? with
  | none => rw [q] at h; cases h
  | some x => rw [q] at h; simp at h; exact ⟨x, rfl, h.symm⟩
theorem i_enumT {elts : List Expr} {kk : Nat} {tpos : Pos} (hm : X.mg "enumerate" = none) (ha : XE X F a δ (.tup xs)) (hg : Gl X "enumerate" := by rfl) (hs : starEach [a] X.env = [(false, eval a X.env)] := by rfl) :
    XI X F (.Tuple elts kk tpos) (.Call (.Name "enumerate" p) [a] [] pos) δ (enumD xs) :=
  PI.imp (Zn.pi_enum hg hm (a_cons ha a_nil hs) hs) fun σ H R ⟨H0, S, k⟩ => ⟨H0, S, fun vs H' H0' g r => by
    obtain ⟨v, rfl, r1⟩ := r.one
    obtain ⟨q1, us, rfl, e1, rs1⟩ := rep_tup.mp r1
    have l1 := rs1.length
    refine ⟨_, _, rfl, .tup q1 us (SqT.of (g.ex _ _ e1)), k _ H' H0' g fun i H2 s => ?_⟩
    have s1 : SqT X.K H2 q1 us := SqT.of (s _ _ e1)
    have lz : (enumD xs).length = us.length := by unfold enumD; simp; omega
    refine ⟨fun hi => ⟨⟨us, s1, by omega⟩, fun v H3 hy z hz => ?_⟩, fun hi => ⟨us, s1, by omega⟩⟩
    obtain ⟨T, u, rfl, hT, rfl, f1⟩ := hy
    obtain ⟨x, ex, rfl⟩ := enumD_get hz
    obtain ⟨u', e3, r3⟩ := rs1.get ex
    cases Option.some.inj (e3.symm.trans (f1 us s1))
    exact .inr ⟨T, _, _, rfl, rfl, hT, rfl, reps_cons (rep_int.mpr rfl) (reps_cons r3 reps_nil)⟩⟩
theorem i_enumL {elts : List Expr} {kk : Nat} {tpos : Pos} (hm : X.mg "enumerate" = none) (ha : XE X F a δ (.lst xs)) (hg : Gl X "enumerate" := by rfl) (hs : starEach [a] X.env = [(false, eval a X.env)] := by rfl) :
    XI X F (.Tuple elts kk tpos) (.Call (.Name "enumerate" p) [a] [] pos) δ (enumD xs) :=
  PI.imp (pi_enum hg hm (a_cons ha a_nil hs) hs) fun σ H R ⟨H0, S, k⟩ => ⟨H0, S, fun vs H' H0' g r => by
    obtain ⟨v, rfl, r1⟩ := r.one
    obtain ⟨q1, us, rfl, e1, rs1⟩ := rep_lst.mp r1
    have l1 := rs1.length
    refine ⟨q1, us, rfl, SqL.of (g.ex _ _ e1), k _ H' H0' g fun i H2 s => ?_⟩
    have s1 : SqL X.K H2 q1 us := SqL.of (s _ _ e1)
    have lz : (enumD xs).length = us.length := by unfold enumD; simp; omega
    refine ⟨fun hi => ⟨⟨us, us[i]'(by omega), s1, List.getElem?_eq_getElem (by omega)⟩, fun v H3 hy z hz => ?_⟩, fun hi => ⟨us, s1, by omega⟩⟩
    obtain ⟨T, u, rfl, hT, rfl, f1⟩ := hy
    obtain ⟨x, ex, rfl⟩ := enumD_get hz
    obtain ⟨u', e3, r3⟩ := rs1.get ex
    have := f1 us s1
    rw [e3] at this; cases this
    exact .inr ⟨T, _, _, rfl, rfl, hT, rfl, reps_cons (rep_int.mpr rfl) (reps_cons r3 reps_nil)⟩⟩

/-! ### == of data -/
mutual
def pdD : D → PyData
  | .non => .none
  | .bl b => .bool b
  | .int i => .int i
  | .str s => .str s
  | .tup ds => .tuple (pdDs ds)
  | .lst ds => .list (pdDs ds)
  | _ => .dict []
def pdDs : List D → List PyData
  | [] => []
  | d :: ds => pdD d :: pdDs ds
/-- at most n deep; no texts, dicts, instances -/
def okD : Nat → D → Bool
  | _, .non => true
  | _, .bl _ => true
  | _, .int _ => true
  | _, .str s => (PyData.str s).canLay0
  | n + 1, .tup ds => okDs n ds
  | n + 1, .lst ds => okDs n ds
  | _, _ => false
def okDs : Nat → List D → Bool
  | _, [] => true
  | n, d :: ds => okD n d && okDs n ds
end
mutual
theorem dp_of {K : PySem.W.Frag} {T : Addr} {H : Hp} : ∀ (n : Nat) (d : D) (v : V), okD n d = true → Rep T H d v → Dp K H v (pdD d)
  | _, .non, v, _, r => by rw [rep_non.mp r]; unfold pdD; exact .non
  | _, .bl b, v, _, r => by rw [rep_bl.mp r]; unfold pdD; exact .bl b
  | _, .int b, v, _, r => by rw [rep_int.mp r]; unfold pdD; exact .int b
  | n + 1, .tup ds, v, h, r => by
    obtain ⟨q, vs, rfl, e, rs⟩ := rep_tup.mp r
    unfold pdD
    exact .tup (SqT.of e) (dps_of n ds vs (by unfold okD at h; exact h) rs)
  | n + 1, .lst ds, v, h, r => by
    obtain ⟨q, vs, rfl, e, rs⟩ := rep_lst.mp r
    unfold pdD
    exact .lst (SqL.of e) (dps_of n ds vs (by unfold okD at h; exact h) rs)
  | 0, .tup ds, v, h, r => by unfold okD at h; cases h
  | 0, .lst ds, v, h, r => by unfold okD at h; cases h
  | _, .str b, v, _, r => by rw [rep_str.mp r]; unfold pdD; exact .str b
  | _, .dk _ _, v, h, r => by unfold okD at h; cases h
  | _, .ins _, v, h, r => by unfold okD at h; cases h
theorem dps_of {K : PySem.W.Frag} {T : Addr} {H : Hp} : ∀ (n : Nat) (ds : List D) (vs : List V), okDs n ds = true → Reps T H ds vs → DpAll K H vs (pdDs ds)
  | _, [], vs, _, r => by rw [r.nil_iff]; unfold pdDs; exact .nil
  | n, d :: ds, vs, h, r => by
    obtain ⟨v, us, rfl, r1, r2⟩ := r.cons_iff
    unfold okDs at h
    rw [Bool.and_eq_true] at h
    unfold pdDs
    exact .cons (dp_of n d v h.1 r1) (dps_of n ds us h.2 r2)
end
mutual
theorem lay_of : ∀ (n : Nat) (d : D), okD n d = true → (pdD d).canLay0 = true ∧ (pdD d).depth ≤ n
  | _, .non, _ => by unfold pdD; exact ⟨rfl, by unfold PyData.depth; omega⟩
  | _, .bl b, _ => by unfold pdD; exact ⟨rfl, by unfold PyData.depth; omega⟩
  | _, .int b, _ => by unfold pdD; exact ⟨rfl, by unfold PyData.depth; omega⟩
  | n + 1, .tup ds, h => by
    have ⟨q1, q2⟩ := lays_of n ds (by unfold okD at h; exact h)
    unfold pdD
    exact ⟨by unfold PyData.canLay0; exact q1, by unfold PyData.depth; omega⟩
  | n + 1, .lst ds, h => by
    have ⟨q1, q2⟩ := lays_of n ds (by unfold okD at h; exact h)
    unfold pdD
    exact ⟨by unfold PyData.canLay0; exact q1, by unfold PyData.depth; omega⟩
  | 0, .tup ds, h => by unfold okD at h; cases h
  | 0, .lst ds, h => by unfold okD at h; cases h
  | _, .str b, h => by unfold okD at h; unfold pdD; exact ⟨h, by unfold PyData.depth; omega⟩
  | _, .dk _ _, h => by unfold okD at h; cases h
  | _, .ins _, h => by unfold okD at h; cases h
theorem lays_of : ∀ (n : Nat) (ds : List D), okDs n ds = true → PyData.canLayAll0 (pdDs ds) = true ∧ PyData.depthAll (pdDs ds) ≤ n
  | _, [], _ => by unfold pdDs; exact ⟨rfl, by unfold PyData.depthAll; omega⟩
  | n, d :: ds, h => by
    unfold okDs at h
    rw [Bool.and_eq_true] at h
    have ⟨q1, q2⟩ := lay_of n d h.1
    have ⟨q3, q4⟩ := lays_of n ds h.2
    unfold pdDs
    exact ⟨by unfold PyData.canLayAll0; rw [q1, q3]; rfl, by unfold PyData.depthAll; omega⟩
end
theorem shaped_of {n : Nat} {d : D} (h : okD n d = true) (hn : n ≤ 64) : SeqAt.shaped (pdD d) = true := by
  have ⟨q1, q2⟩ := lay_of n d h
  unfold SeqAt.shaped
  rw [q1]
  have : (pdD d).depth ≤ 64 := by omega
  simp [this]
theorem x_eqD (n m : Nat) {q : Bool} (hu : X.A.units + 64 < cLine) (ha : XR X F a δ x) (hb : XR X F b δ y) (hx : okD n x = true) (hy : okD m y = true) (hq : PyData.eqv (pdD x) (pdD y) = q) (hn : n ≤ 64 := by decide) (hm : m ≤ 64 := by decide) : XE X F (.Compare a [.Eq] [b] pos) δ (.bl q) :=
  x_cmp (op_eqD hu) ha hb fun H0 H v w Q ex r1 r2 k => ⟨pdD x, pdD y, dp_of n x v hx (r1.rep ex), dp_of m y w hy (r2.rep ex), shaped_of hx hn, shaped_of hy hm, k _ (rep_bl.mpr (by rw [hq]))⟩
theorem t_eqD (n m : Nat) {q : Bool} (hu : X.A.units + 64 < cLine) (ha : XR X F a δ x) (hb : XR X F b δ y) (hx : okD n x = true) (hy : okD m y = true) (hq : PyData.eqv (pdD x) (pdD y) = q) (hn : n ≤ 64 := by decide) (hm : m ≤ 64 := by decide) : XT X F (.Compare a [.Eq] [b] pos) δ q :=
  t_cmp (op_eqD hu) ha hb fun H0 H v w Q ex r1 r2 k => ⟨pdD x, pdD y, dp_of n x v hx (r1.rep ex), dp_of m y w hy (r2.rep ex), shaped_of hx hn, shaped_of hy hm, k _ (rep_bl.mpr (by rw [hq]))⟩
theorem x_neD (n m : Nat) {q : Bool} (hu : X.A.units + 64 < cLine) (ha : XR X F a δ x) (hb : XR X F b δ y) (hx : okD n x = true) (hy : okD m y = true) (hq : PyData.eqv (pdD x) (pdD y) = q) (hn : n ≤ 64 := by decide) (hm : m ≤ 64 := by decide) : XE X F (.Compare a [.NotEq] [b] pos) δ (.bl !q) :=
  x_cmp (op_neD hu) ha hb fun H0 H v w Q ex r1 r2 k => ⟨pdD x, pdD y, dp_of n x v hx (r1.rep ex), dp_of m y w hy (r2.rep ex), shaped_of hx hn, shaped_of hy hm, k _ (rep_bl.mpr (by rw [hq]))⟩
theorem t_neD (n m : Nat) {q : Bool} (hu : X.A.units + 64 < cLine) (ha : XR X F a δ x) (hb : XR X F b δ y) (hx : okD n x = true) (hy : okD m y = true) (hq : PyData.eqv (pdD x) (pdD y) = q) (hn : n ≤ 64 := by decide) (hm : m ≤ 64 := by decide) : XT X F (.Compare a [.NotEq] [b] pos) δ !q :=
  t_cmp (op_neD hu) ha hb fun H0 H v w Q ex r1 r2 k => ⟨pdD x, pdD y, dp_of n x v hx (r1.rep ex), dp_of m y w hy (r2.rep ex), shaped_of hx hn, shaped_of hy hm, k _ (rep_bl.mpr (by rw [hq]))⟩
theorem okDs_ints {n : Nat} : ∀ {ns : List Int}, okDs n (ns.map .int) = true
  | [] => by simp [okDs]
  | i :: ns => by rw [List.map_cons]; unfold okDs; rw [okDs_ints, Bool.and_true]; cases n <;> simp [okD]
theorem okDs_all {α : Type} {n : Nat} {f : α → D} (h : ∀ a, okD n (f a) = true) : ∀ {ns : List α}, okDs n (ns.map f) = true
  | [] => by simp [okDs]
  | i :: ns => by rw [List.map_cons]; unfold okDs; rw [okDs_all h, Bool.and_true]; exact h i
theorem eqv_nil {ds : List D} : PyData.eqv (pdD (.tup ds)) (pdD (.tup [])) = ds.isEmpty := by
  cases ds <;> simp [pdD, pdDs, PyData.eqv, PyData.eqvAll]
theorem eqv_nilL {ds : List D} : PyData.eqv (pdD (.lst ds)) (pdD (.lst [])) = ds.isEmpty := by
  cases ds <;> simp [pdD, pdDs, PyData.eqv, PyData.eqvAll]

/-! ### chains of ints -/
theorem tchain_ok {r r' : R2} {p q : Bool} (hr : ∀ H0 H v w (Q : VK), Same H0 H → RepO F.T H0 H x v → RepO F.T H0 H y w → (∀ u, Rep F.T H0 (.bl p) u → Q u H) → r v w H Q)
    (hr' : ∀ H0 H v w (Q : VK), Same H0 H → RepO F.T H0 H y v → RepO F.T H0 H z w → (∀ u, Rep F.T H0 (.bl q) u → Q u H) → r' v w H Q) {Q : VK} (h : ∃ H0, SRep F H0 σ H δ ∧ ∀ u H' H0', Gr H0 H H0' H' → Rep F.T H0' (.bl (p && q)) u → Q u H') :
    tChain r r' (tR F δ x) (tR F δ y) (tR F δ z) σ H Q := by
  obtain ⟨H0, S, k⟩ := h
  refine ⟨H0, S, fun v H1 H01 g1 r1 => ⟨H01, S.gr g1, fun w H2 H02 g2 r2 => ?_⟩⟩
  refine hr H02 H2 v w _ g2.ex (r1.mono g2.s0 g2.s) r2 fun u ru => ?_
  refine ⟨p, rep_bl.mp ru, ?_⟩
  cases p with
  | false =>
    rw [if_neg (by decide)]
    exact k _ H2 H02 (g1.trans g2) (rep_bl.mpr rfl)
  | true =>
    rw [if_pos rfl]
    refine ⟨H02, (S.gr g1).gr g2, fun w' H3 H03 g3 r3 => ?_⟩
    exact hr' H03 H3 w w' _ g3.ex (r2.mono g3.s0 g3.s) r3 fun u ru => k u H3 H03 ((g1.trans g2).trans g3) ru
theorem x_chain {op op' : CmpOp} {r r' : R2} {p q : Bool} (ho : OpR X (compareOp op) r) (ho' : OpR X (compareOp op') r') (ha : XR X F a δ x) (hb : XR X F b δ y) (hc : XR X F c δ z)
    (hr : ∀ H0 H v w (Q : VK), Same H0 H → RepO F.T H0 H x v → RepO F.T H0 H y w → (∀ u, Rep F.T H0 (.bl p) u → Q u H) → r v w H Q)
    (hr' : ∀ H0 H v w (Q : VK), Same H0 H → RepO F.T H0 H y v → RepO F.T H0 H z w → (∀ u, Rep F.T H0 (.bl q) u → Q u H) → r' v w H Q)
    (hm : lastMarks [op, op'] [b, c] = false := by with_unfolding_all rfl) : XE X F (.Compare a [op, op'] [b, c] pos) δ (.bl (p && q)) :=
  PE.imp (pe_chain ho ho' ha hb hc hm) fun σ H Q h => tchain_ok hr hr' h
theorem t_chain {op op' : CmpOp} {r r' : R2} {p q : Bool} (ho : OpR X (compareOp op) r) (ho' : OpR X (compareOp op') r') (ha : XR X F a δ x) (hb : XR X F b δ y) (hc : XR X F c δ z)
    (hr : ∀ H0 H v w (Q : VK), Same H0 H → RepO F.T H0 H x v → RepO F.T H0 H y w → (∀ u, Rep F.T H0 (.bl p) u → Q u H) → r v w H Q)
    (hr' : ∀ H0 H v w (Q : VK), Same H0 H → RepO F.T H0 H y v → RepO F.T H0 H z w → (∀ u, Rep F.T H0 (.bl q) u → Q u H) → r' v w H Q)
    (hm : lastMarks [op, op'] [b, c] = false := by with_unfolding_all rfl) : XT X F (.Compare a [op, op'] [b, c] pos) δ (p && q) :=
  t_of (pt_chain ho ho' ha hb hc hm) fun σ H Q h => tchain_ok hr hr' h
variable {i j k : Int}
theorem x_lele (ha : XE X F a δ (.int i)) (hb : XE X F b δ (.int j)) (hc : XE X F c δ (.int k)) (hm : lastMarks [.LtE, .LtE] [b, c] = false := by with_unfolding_all rfl) : XE X F (.Compare a [.LtE, .LtE] [b, c] pos) δ (.bl (decide (i ≤ j) && decide (j ≤ k))) :=
  x_chain op_le op_le ha.r hb.r hc.r (fun _ _ _ _ _ _ r1 r2 k => rI0_ok r1 r2 (.bl _) k) (fun _ _ _ _ _ _ r1 r2 k => rI0_ok r1 r2 (.bl _) k) hm
theorem t_lele (ha : XE X F a δ (.int i)) (hb : XE X F b δ (.int j)) (hc : XE X F c δ (.int k)) (hm : lastMarks [.LtE, .LtE] [b, c] = false := by with_unfolding_all rfl) : XT X F (.Compare a [.LtE, .LtE] [b, c] pos) δ (decide (i ≤ j) && decide (j ≤ k)) :=
  t_chain op_le op_le ha.r hb.r hc.r (fun _ _ _ _ _ _ r1 r2 k => rI0_ok r1 r2 (.bl _) k) (fun _ _ _ _ _ _ r1 r2 k => rI0_ok r1 r2 (.bl _) k) hm
theorem x_lelt (ha : XE X F a δ (.int i)) (hb : XE X F b δ (.int j)) (hc : XE X F c δ (.int k)) (hm : lastMarks [.LtE, .Lt] [b, c] = false := by with_unfolding_all rfl) : XE X F (.Compare a [.LtE, .Lt] [b, c] pos) δ (.bl (decide (i ≤ j) && decide (j < k))) :=
  x_chain op_le op_lt ha.r hb.r hc.r (fun _ _ _ _ _ _ r1 r2 k => rI0_ok r1 r2 (.bl _) k) (fun _ _ _ _ _ _ r1 r2 k => rI0_ok r1 r2 (.bl _) k) hm
theorem t_eqeq (ha : XE X F a δ (.int i)) (hb : XE X F b δ (.int j)) (hc : XE X F c δ (.int k)) (hm : lastMarks [.Eq, .Eq] [b, c] = false := by with_unfolding_all rfl) : XT X F (.Compare a [.Eq, .Eq] [b, c] pos) δ (decide (i = j) && decide (j = k)) :=
  t_chain op_eq op_eq ha.r hb.r hc.r (fun _ _ _ _ _ _ r1 r2 k => by rw [oI r1, oI r2]; exact ⟨rfl, k _ (rep_bl.mpr (by simp))⟩) (fun _ _ _ _ _ _ r1 r2 k => by rw [oI r1, oI r2]; exact ⟨rfl, k _ (rep_bl.mpr (by simp))⟩) hm

/-! ### sorted -/
theorem sort_uniq {l m : List Int} (h1 : l.Pairwise (· ≤ ·)) (h2 : m.Pairwise (· ≤ ·)) (p : l.Perm m) : l = m := List.Perm.eq_of_pairwise (fun _ _ _ _ => Int.le_antisymm) h1 h2 p
theorem strict_uniq : ∀ {l m : List Int}, l.Pairwise (· < ·) → m.Pairwise (· < ·) → (∀ k, k ∈ l ↔ k ∈ m) → l = m
  | [], [], _, _, _ => rfl
  | [], y :: m, _, _, h => absurd ((h y).mpr List.mem_cons_self) (by simp)
  | x :: l, [], _, _, h => absurd ((h x).mp List.mem_cons_self) (by simp)
  | x :: l, y :: m, h1, h2, h => by
    obtain ⟨a1, a2⟩ := List.pairwise_cons.mp h1
    obtain ⟨b1, b2⟩ := List.pairwise_cons.mp h2
    have e : x = y := by
      rcases List.mem_cons.mp ((h x).mp List.mem_cons_self) with z | z
      · exact z
      · rcases List.mem_cons.mp ((h y).mpr List.mem_cons_self) with w | w
        · exact w.symm
        · have := b1 _ z; have := a1 _ w; omega
    subst e
    congr 1
    refine strict_uniq a2 b2 fun k => ⟨fun hk => ?_, fun hk => ?_⟩
    · rcases List.mem_cons.mp ((h k).mp (List.mem_cons_of_mem _ hk)) with z | z
      · have := a1 _ hk; omega
      · exact z
    · rcases List.mem_cons.mp ((h k).mpr (List.mem_cons_of_mem _ hk)) with z | z
      · have := b1 _ hk; omega
      · exact z
variable {ns ms : List Int}
theorem l_callB {id : String} {n : Str} {r : List V → Hp → VK → Prop} {ds zs : List D} (hc : CallR X (.builtin id) r) (hm : X.mg n = none) (hv : bootBuiltins n = some (.builtin id)) (ha : XAR X F (e :: es) δ ds)
    (hr : ∀ H0 H vs (Q : VK), Same H0 H → RepsO F.T H0 H ds vs → (∀ p us, H p = none → Reps F.T H0 zs us → Q (.ref p) (upd H p (.lst us))) → r vs H Q) (hg : Gl X n := by rfl) (hn : n ≠ "__name__" := by decide) (hdb : (n == ("__debug__" : Str)) = false := by decide)
    (he : starEach (e :: es) X.env = (false, eval e X.env) :: starEach es X.env := by rfl) (hpl : (backTo pos (starEach es X.env)).any (·.1) = false := by rfl) : XL X F (.Call (.Name n p) (e :: es) [] pos) δ zs :=
  PE.imp (pe_callB hc hg hm hv ha hn hdb he hpl) fun σ H Q ⟨H0, S, k⟩ => ⟨H0, S, fun vs H' H0' g rs => hr H0' H' vs Q g.ex rs fun p us hp ru => k p us _ H0' (g.trans (Gr.laid g.ex hp)) (g.s.free hp) (g.ex.free hp) upd_same ru⟩
theorem l_sorted (hm : X.mg "sorted" = none) (ha : XR X F a δ (.lst (ns.map .int))) (hp : ms.Perm ns) (hs : ms.Pairwise (· ≤ ·)) (hg : Gl X "sorted" := by rfl) (h1 : starEach [a] X.env = (false, eval a X.env) :: starEach [] X.env := by rfl) : XL X F (.Call (.Name "sorted" p) [a] [] pos) δ (ms.map .int) :=
  l_callB cr_sortedI hm (by decide +kernel) (ar_one ha h1) (fun H0 H vs Q ex r k => by
    obtain ⟨v, rfl, q, us, rfl, e1, rs⟩ := RepsO.one r
    rw [Reps.ints rs] at e1
    refine ⟨q, ns, rfl, SqL.of e1, fun ns' l hp' hs' hl => ?_⟩
    rw [sort_uniq hs' hs (hp'.trans hp.symm)]
    exact k l _ hl reps_ints) hg (he := h1)
def rSetL (K : PySem.W.Frag) (w : World) : List V → Hp → VK → Prop := fun vs H Q => ∃ (l : Addr) (ns : List Int), vs = [.ref l] ∧ SqL K H l (ns.map V.int) ∧ ns.length ≤ 1000 ∧ ∀ p c, H p = none → c ≤ ns.length → Q (.ref p) (upd H p (SetO w p (fun j => decide (j ∈ ns)) c))
theorem call_setL (hc : X.calm = true) : CallR X (.type "set") (rSetL X.K X.w) := by
  intro pins s σ H xs us Q I r h
  obtain ⟨l, ns, rfl, hq, hb, q⟩ := h
  obtain rfl := Vals.ref1 r
  obtain ⟨its, rv, p1, _⟩ := I.list hq
  refine Zn.set_ints ns (I.ok.hd hc) p1.isList (by simpa using ints_of_vals rv) (by unfold scanBound; omega) fun h' tk c R1 hcn k => ?_
  exact ⟨.ref _, upd H s.heap.objs.size (SetO X.w s.heap.objs.size (fun j => decide (j ∈ ns)) c), I.laid (t' := tk) (fun b u e => k b u e) (Nat.le_refl _) (setO_new R1), rfl, q _ _ (I.hok.fresh (Nat.le_refl _)) hcn⟩
theorem l_sortedSet {p2 q2 : Pos} (hm : X.mg "sorted" = none) (hm2 : X.mg "set" = none) (ha : XR X F a δ (.lst (ns.map .int))) (hl : ns.length < 64) (hs : ms.Pairwise (· < ·)) (hq : ∀ k, k ∈ ms ↔ k ∈ ns) (hc : X.calm = true := by rfl) (hg : Gl X "sorted" := by rfl) (hg2 : Gl X "set" := by rfl)
    (h1 : starEach [a] X.env = (false, eval a X.env) :: starEach [] X.env := by rfl) (h2 : starEach [.Call (.Name "set" p2) [a] [] q2] X.env = (false, eval (.Call (.Name "set" p2) [a] [] q2) X.env) :: starEach [] X.env := by rfl) :
    XL X F (.Call (.Name "sorted" p) [.Call (.Name "set" p2) [a] [] q2] [] pos) δ (ms.map .int) :=
  PE.imp (pe_callB (cr_sortedSet hc) hg hm (by decide +kernel) (pa_cons (pe_callTy (call_setL hc) hg2 hm2 boot_set (pa_cons ha pa_nil h1) (by decide) (by decide) h1) pa_nil h2) (by decide) (by decide) h2) fun σ H Q ⟨H0, S, k⟩ => ⟨H0, S, fun v H' H0' g r => by
    obtain ⟨q, us, rfl, e1, rs⟩ := r
    rw [Reps.ints rs] at e1
    refine ⟨q, ns, rfl, SqL.of e1, by omega, fun l c hl hcn => ?_⟩
    refine ⟨l, _, c, rfl, upd_same, by omega, fun ns' l2 h1' h2' h3' hl2 => ?_⟩
    have e : ns' = ms := strict_uniq h1' hs fun k => (h2' k).trans (by rw [decide_eq_true_eq]; exact (hq k).symm)
    subst e
    have g2 := (g.trans (Gr.laid (o := SetO X.w l (fun j => decide (j ∈ ns)) c) g.ex hl)).trans (Gr.laid (o := .lst (ns'.map V.int)) (g.ex.trans (same_new hl)) hl2)
    exact k l2 _ _ H0' g2 (by
      rcases Classical.em (l2 = l) with z | z
      · subst z; rw [upd_same] at hl2; cases hl2
      · rw [upd_ne z] at hl2; exact g.s.free hl2) (by
      rcases Classical.em (l2 = l) with z | z
      · subst z; rw [upd_same] at hl2; cases hl2
      · rw [upd_ne z] at hl2; exact g.ex.free hl2) upd_same reps_ints⟩

/-! ### slices -/
theorem l_rev {kk : Nat} {p1 p2 p3 : Pos} (he : XR X F e δ (.lst xs)) : XL X F (.Subscript e (.Slice none none (some (.UnaryOp .USub (.Constant (.int 1) kk p1) p2)) p3) pos) δ xs.reverse :=
  PE.imp (pe_revL he) fun σ H Q ⟨H0, S, k⟩ => ⟨H0, S, fun v H' H0' g r => by
    obtain ⟨q, vs, rfl, e1, rs⟩ := r
    exact ⟨q, vs, rfl, SqL.of e1, fun l hl => k l _ _ H0' (g.trans (Gr.laid g.ex hl)) (g.s.free hl) (g.ex.free hl) upd_same rs.reverse⟩⟩
theorem sIx_take {n : Nat} {m : Int} (h : 0 ≤ m) : HT.sIx n n (some m) = min m.toNat n := by
  unfold HT.sIx
  simp
  omega
theorem cut_take {vs : List V} {m : Int} (h : 0 ≤ m) : cutV vs none (some m) = vs.take m.toNat := by
  unfold cutV
  rw [sIx_take h]
  show (vs.drop 0).take (min m.toNat vs.length - 0) = _
  rw [List.drop_zero, Nat.sub_zero]
  rcases Nat.le_total m.toNat vs.length with z | z
  · rw [Nat.min_eq_left z]
  · rw [Nat.min_eq_right z, List.take_length, List.take_of_length_le z]
theorem l_takeL {m : Int} {p2 : Pos} (he : XR X F e δ (.lst xs)) (hb : XE X F b δ (.int m)) (h0 : 0 ≤ m) : XL X F (.Subscript e (.Slice none (some b) none p2) pos) δ (xs.take m.toNat) :=
  PE.imp (pe_slice sl_list he po_none (po_some hb)) fun σ H Q ⟨H0, S, k⟩ => ⟨H0, S, fun v H' H0' g r => by
    obtain ⟨q, vs, rfl, e1, rs⟩ := r
    refine ⟨H0', S.gr g, fun w H2 H02 g2 r2 => ⟨m, rep_int.mp r2, ?_⟩⟩
    have e2 := g2.s _ _ e1
    refine ⟨q, vs, rfl, SqL.of e2, fun l hl => ?_⟩
    have G := (g.trans g2).trans (Gr.laid (o := .lst (cutV vs none (some m))) g2.ex hl)
    exact k l _ _ H02 G ((g.s.trans g2.s).free hl) (g2.ex.free hl) (by rw [upd_same, cut_take h0]) (Reps.take _ (Reps.mono g2.s0 _ _ rs))⟩
theorem x_takeT {m : Int} {p2 : Pos} (he : XE X F e δ (.tup xs)) (hb : XE X F b δ (.int m)) (h0 : 0 ≤ m) : XE X F (.Subscript e (.Slice none (some b) none p2) pos) δ (.tup (xs.take m.toNat)) :=
  PE.imp (pe_slice sl_tupA he po_none (po_some hb)) fun σ H Q ⟨H0, S, k⟩ => ⟨H0, S, fun v H' H0' g r => by
    obtain ⟨q, vs, rfl, e1, rs⟩ := rep_tup.mp r
    refine ⟨H0', S.gr g, fun w H2 H02 g2 r2 => ⟨m, rep_int.mp r2, ?_⟩⟩
    have e2 := g2.s0 _ _ e1
    have rs2 := Reps.mono g2.s0 _ _ rs
    have hl := rs.length
    refine ⟨q, vs, rfl, SqT.of (g2.ex _ _ e2), fun ⟨h1, h2⟩ => ?_, fun _ l hl => ?_⟩
    · rw [sIx_take h0] at h2
      have : xs.take m.toNat = xs := List.take_of_length_le (by omega)
      exact k _ _ H02 (g.trans g2) (rep_tup.mpr ⟨q, vs, rfl, e2, by rw [this]; exact rs2⟩)
    · rw [cut_take h0]
      exact k _ _ _ ((g.trans g2).trans (Gr.new g2.ex hl)) (rep_tup.mpr ⟨l, _, rfl, upd_same, Reps.mono (same_new (g2.ex.free hl)) _ _ (rs2.take _)⟩)⟩
end
end Dl
end
section
set_option Elab.async false
set_option linter.all false
set_option maxRecDepth 100000
set_option maxHeartbeats 1000000
/-! A strict zip whose first pair is still held: each turn makes a new pair. -/
namespace Zn
open PySem
open Sem (wp)
structure HeldAt (h : Heap) (z TI TO i1 i2 T : Addr) (f : Bool) : Prop where
  ob : h.get? z = some { cls := .type "zip", data := .fields #[rawInt T, .bool f, .bool true, .ref TI, .ref TO] }
  ti : IsTupOf2 h TI (.ref i1) (.ref i2)
  held : ∃ o, h.get? T = some o
section
variable {prog : Program} {w : World} {A : Around} {E : Value → Shared → Prop} {s : Shared} {z TI TO i1 i2 T : Addr} {f : Bool} {fp1 fp2 : List Addr} {n i : Nat} {P1 P2 : Nat → Value → Prop} {St1 St2 : Nat → Heap → Prop}
/-- the pair is in other hands: the zip keeps to new ones -/
theorem held_taken {Q : Bool → Shared → Prop} (Z : HeldAt s.heap z TI TO i1 i2 T f) (k : ∀ h', HeldAt h' z TI TO i1 i2 T true → Heap.SameBut z s.heap h' → Q false { s with heap := h' }) (d1 : TI ≠ z) (d2 : T ≠ z) :
    wpAny (model prog w) A (Builtin.SmallTypes.ownedTupleIsFree (.ref z)) Q E s := by
  obtain ⟨hz, hTI, o, hT⟩ := Z
  have al : ∀ {A' : Around} {E' : Value → Shared → Prop} {Q' : Option Obj → Shared → Prop}, Q' (some o) s → wpAny (model prog w) A' (loadIfAlive ((T : Int).toNat)) Q' E' s := fun q => by
    rw [Int.toNat_natCast]
    exact PySem.W.kdx_alive hT q
  cases f
  · wp_walk using al
    exact k _ ⟨Heap.get?_update_self _ hz rfl, (Heap.get?_update_other _ _ (Ne.symm d1)).trans hTI, o, (Heap.get?_update_other _ _ (Ne.symm d2)).trans hT⟩ (Heap.SameBut.update ..)
  · wp_walk using al
    exact k s.heap ⟨hz, hTI, o, hT⟩ (Heap.SameBut.refl ..)
theorem kept3 {h0 h1 h2 h3 : Heap} (a : Heap.ExtBut z h0 h1) (b : Heap.ExtBut i1 h1 h2) (c : Heap.ExtBut i2 h2 h3) : Kept [z, i1, i2] h0 h3 := fun d o m e =>
  c _ _ (fun q => m (q ▸ by simp)) (b _ _ (fun q => m (q ▸ by simp)) (a _ _ (fun q => m (q ▸ by simp)) e))
theorem held_item {Q : PySem.Fin → Shared → Prop} (S : ZipSep2 z TI TO i1 i2 fp1 fp2) (dT : T ∉ [z, i1, i2]) (D1 : Draws prog w A i1 fp1 n P1 St1) (D2 : Draws prog w A i2 fp2 n P2 St2) (Z : HeldAt s.heap z TI TO i1 i2 T f) (st1 : St1 i s.heap) (st2 : St2 i s.heap) (hi : i < n)
    (k : ∀ x y h' tk, P1 i x → P2 i y → HeldAt h' z TI TO i1 i2 T true → St1 (i + 1) h' → St2 (i + 1) h' → IsTupOf2 h' s.heap.objs.size x y → Kept [z, i1, i2] s.heap h' → Q (.done (.ret (.ref s.heap.objs.size))) { s with heap := h', toks := tk }) :
    wpAny (model prog w) A (Builtin.«zip.__next__» ⟨[.ref z], []⟩) Q E s := by
  have hz := Z.ob
  have hTI := Z.ti
  have d2 : T ≠ z := fun e => dT (e ▸ List.mem_cons_self)
  unfold Builtin.«zip.__next__»
  simp only [← Array.forIn_toList]
  wp_walk using held_taken Z
  case d1 => exact S.TIz
  case d2 => exact d2
  intro h0 Z0 sb0
  wp_walk using more D1 hi
  · exact D1.over st1 sb0 S.zf1
  intro x h1 tk1 p1 q1 sb1
  wp_walk using more D2 hi
  · exact D2.over (D2.over st2 sb0 S.zf2) sb1 S.sep1_2
  intro y h2 tk2 p2 q2 sb2
  wp_walk
  have up : ∀ {c o}, h2.get? c = some o → (h2.push { cls := .type "tuple", data := .seq #[x, y] }).get? c = some o := fun e => Heap.get?_push_of_some _ e
  have all : Kept [z, i1, i2] h0 (h2.push { cls := .type "tuple", data := .seq #[x, y] }) := fun c o m e => up (kept3 (fun _ _ _ e => e) sb1.extBut sb2.extBut c o m e)
  have all' : Kept [z, i1, i2] s.heap (h2.push { cls := .type "tuple", data := .seq #[x, y] }) := fun c o m e => up (kept3 sb0.extBut sb1.extBut sb2.extBut c o m e)
  have sz : h2.objs.size = s.heap.objs.size := sb2.1.trans (sb1.1.trans sb0.1)
  rw [← sz] at k
  obtain ⟨o, hT⟩ := Z0.held
  exact k x y _ tk2 p1 p2 ⟨up ((sb2.2 _ S.zi2).trans ((sb1.2 _ S.zi1).trans Z0.ob)), all _ _ (by simp [S.TIz, S.TIi1, S.TIi2]) Z0.ti, o, all _ _ dT hT⟩
    (D1.frame _ _ _ (D1.over q1 sb2 S.sep2_1) fun _ _ _ e => up e) (D2.frame _ _ _ q2 fun _ _ _ e => up e) (Heap.get?_push_size _ rfl) all'
theorem held_end {Q : PySem.Fin → Shared → Prop} (hh : A.handled = none) (S : ZipSep2 z TI TO i1 i2 fp1 fp2) (dT : T ∉ [z, i1, i2]) (D1 : Draws prog w A i1 fp1 n P1 St1) (D2 : Draws prog w A i2 fp2 n P2 St2) (Z : HeldAt s.heap z TI TO i1 i2 T f) (st1 : St1 n s.heap) (st2 : St2 n s.heap) (hf : ∀ b ∈ fp2, b ≠ z ∧ b ≠ i1)
    (k : ∀ h' tk e, Kept [z, i1, i2] s.heap h' → (∃ o, h'.get? e = some o ∧ o.cls = .type "StopIteration") → E (.ref e) { s with heap := h', toks := tk }) :
    wpAny (model prog w) A (Builtin.«zip.__next__» ⟨[.ref z], []⟩) Q E s := by
  have hz := Z.ob
  have hTI := Z.ti
  have d2 : T ≠ z := fun e => dT (e ▸ List.mem_cons_self)
  unfold Builtin.«zip.__next__»
  simp only [← Array.forIn_toList]
  wp_walk using held_taken Z
  case d1 => exact S.TIz
  case d2 => exact d2
  intro h0 Z0 sb0
  wp_walk using nomore D1
  · exact D1.over st1 sb0 S.zf1
  intro h1 x1
  wp_walk using nomore D2
  · exact D2.frame _ _ _ st2 fun b m o e => x1 b o (hf b m).2 (sb0.extBut _ _ (hf b m).1 e)
  intro h2 x2
  wp_walk
  exact wpAny_raiseNew_none hh (k _ _ _ (fun c o m e => Heap.get?_push_of_some _ (Heap.get?_push_of_some _ (kept3 sb0.extBut x1 x2 c o m e))) ⟨_, Heap.get?_push_size _ rfl, rfl⟩)
end
end Zn
end
section
set_option Elab.async false
set_option linter.all false
set_option maxRecDepth 100000
set_option maxHeartbeats 1000000
/-! A strict zip of two sources as what dict() is filled from. -/
namespace Zn
open PySem
section
variable {prog : Program} {w : World} {n N : Nat} {fp1 fp2 : List Nat} {P1 P2 : Nat → Value → Prop} {St1 St2 : Nat → Heap → Prop}
theorem mem_all {z TI TO i1 i2 c : Addr} (m : c ∈ [z, TO, i1, i2]) : c ∈ [z, TI, TO, i1, i2] := Decidable.byContradiction fun h => kept_all h m
theorem mem_3 {z TO i1 i2 c : Addr} (m : c ∉ [z, TO, i1, i2]) : c ∉ [z, i1, i2] := fun h => m (by
  rcases List.mem_cons.mp h with e | h
  · exact e ▸ List.mem_cons_self
  · exact List.mem_cons_of_mem _ (List.mem_cons_of_mem _ h))
theorem new_3 {k : Nat} (h : N + 4 < k) : k ∉ [N + 4, N, N + 1] := by
  simp only [List.mem_cons, List.not_mem_nil, or_false]
  omega
/-- the zip at turn i while a dict is filled at d: not yet begun, or its first pair in the dict's hands -/
def Filling (N d : Nat) (St1 St2 : Nat → Heap → Prop) (i : Nat) (h : Heap) : Prop :=
  St1 i h ∧ St2 i h ∧ ((∃ a b, ZipAt h (N + 4) (N + 2) (N + 3) N (N + 1) .none a b) ∨ ∃ T f, T ∉ [N + 4, N, N + 1] ∧ T ≠ d ∧ HeldAt h (N + 4) (N + 2) (N + 3) N (N + 1) T f)
theorem filling_src {A : Around} {d : Nat} (hA : A.handled = none) (D1 : ∀ A : Around, A.handled = none → Draws prog w A N (N :: fp1) n P1 St1) (D2 : ∀ A : Around, A.handled = none → Draws prog w A (N + 1) ((N + 1) :: fp2) n P2 St2) (l1 : ∀ b ∈ fp1, b < N) (l2 : ∀ b ∈ fp2, b < N)
    (nd : d ∉ [N + 4, N + 2, N + 3, N, N + 1] ++ (fp1 ++ fp2)) : PairSrc prog w A (N + 4) d [N + 4, N + 3, N, N + 1] n (fun i k v => P1 i k ∧ P2 i v) (Filling N d St1 St2) := by
  have S := zip_sep2 l1 l2
  have E1 := D1 A.in1 hA
  have E2 := D2 A.in1 hA
  have m5 : ∀ c ∈ [N + 4, N + 2, N + 3, N, N + 1], c ≠ d := fun c m e => nd (List.mem_append_left _ (e ▸ m))
  have big : ∀ {s : Shared} {f : Value} {g : Bool} {TI TO : Addr}, s.heap.get? (N + 4) = some { cls := .type "zip", data := .fields #[f, .bool g, .bool true, .ref TI, .ref TO] } → s.heap.objs.size ∉ [N + 4, N, N + 1] := fun e => new_3 (Heap.lt_size e)
  refine { off := fun m => nd (List.mem_append_left _ (mem_all m)), frame := ?_, item := ?_, done := ?_ }
  · rintro i h h' ⟨a, b, c⟩ k
    refine ⟨E1.frame _ _ _ a fun x m o e => k x o (fun q => ?_) e, E2.frame _ _ _ b fun x m o e => k x o (fun q => ?_) e, ?_⟩
    · rcases List.mem_cons.mp m with z | m
      · exact m5 N (by simp) (z ▸ q)
      · exact nd (List.mem_append_right _ (List.mem_append_left _ (q ▸ m)))
    · rcases List.mem_cons.mp m with z | m
      · exact m5 (N + 1) (by simp) (z ▸ q)
      · exact nd (List.mem_append_right _ (List.mem_append_right _ (q ▸ m)))
    · have z4 := m5 (N + 4) (by simp)
      have z2 := m5 (N + 2) (by simp)
      rcases c with ⟨x, y, Z⟩ | ⟨T, f, n1, n2, Z⟩
      · exact .inl ⟨x, y, k _ _ z4 Z.ob, k _ _ z2 Z.ti, k _ _ (m5 (N + 3) (by simp)) Z.to⟩
      · obtain ⟨o, e⟩ := Z.held
        exact .inr ⟨T, f, n1, n2, k _ _ z4 Z.ob, k _ _ z2 Z.ti, o, k _ _ n2 e⟩
  · rintro i s Q E hi ⟨a, b, ⟨u, v, Z⟩ | ⟨T, f, n1, n2, Z⟩⟩ lt k
    · refine next_by Z.typ F.slot_zip_next F.entry_zip_next (F.args_zip_next_1 _) (zip_item S E1 E2 Z a b hi fun x y h' tk p q Z' s1 s2 T2 _ kp => ⟨_, rfl, k _ _ _ h' tk ⟨p, q⟩ (.inl ⟨_, T2, rfl, _, rfl⟩) ⟨s1, s2, .inr ⟨_, false, big Z.ob, Nat.ne_of_gt lt, Z'.ob, Z'.ti, _, T2⟩⟩ kp⟩)
    · exact next_by ⟨_, Z.ob, rfl⟩ F.slot_zip_next F.entry_zip_next (F.args_zip_next_1 _) (held_item S n1 E1 E2 Z a b hi fun x y h' tk p q Z' s1 s2 T2 kp => ⟨_, rfl, k _ _ _ h' tk ⟨p, q⟩ (.inl ⟨_, T2, rfl, _, rfl⟩) ⟨s1, s2, .inr ⟨_, true, n1, n2, Z'⟩⟩ fun c o m e => kp c o (mem_3 m) e⟩)
  · rintro s Q E ⟨a, b, ⟨u, v, Z⟩ | ⟨T, f, n1, n2, Z⟩⟩ k
    · exact next_by Z.typ F.slot_zip_next F.entry_zip_next (F.args_zip_next_1 _) (zip_end (A := A.in1) hA S E1 E2 Z a b (apart l2) fun h' tk e kp ⟨o, ho, hc⟩ => ⟨⟨e, o, rfl, ho, hc⟩, k h' tk kp⟩)
    · exact next_by ⟨_, Z.ob, rfl⟩ F.slot_zip_next F.entry_zip_next (F.args_zip_next_1 _) (held_end (A := A.in1) hA S n1 E1 E2 Z a b (apart l2) fun h' tk e kp ⟨o, ho, hc⟩ => ⟨⟨e, o, rfl, ho, hc⟩, k h' tk fun c o m q => kp c o (mem_3 m) q⟩)
theorem pair_zip (D1 : ∀ A : Around, A.handled = none → Draws prog w A N (N :: fp1) n P1 St1) (D2 : ∀ A : Around, A.handled = none → Draws prog w A (N + 1) ((N + 1) :: fp2) n P2 St2) (l1 : ∀ b ∈ fp1, b < N) (l2 : ∀ b ∈ fp2, b < N)
    (k1 : ∀ i h h', St1 i h → (∀ b ∈ N :: fp1, ∀ o, h.get? b = some o → h'.get? b = some o) → St1 i h') (k2 : ∀ i h h', St2 i h → (∀ b ∈ (N + 1) :: fp2, ∀ o, h.get? b = some o → h'.get? b = some o) → St2 i h')
    (t1 : ∀ h, St1 0 h → ∀ b ∈ N :: fp1, ∃ o, h.get? b = some o) (t2 : ∀ h, St2 0 h → ∀ b ∈ (N + 1) :: fp2, ∃ o, h.get? b = some o) :
    PairArg prog w "zip" (N + 4) ([N + 4, N + 2, N + 3, N, N + 1] ++ (fp1 ++ fp2)) [N + 4, N + 3, N, N + 1] n (fun i k v => P1 i k ∧ P2 i v) (fun h => ZipAt h (N + 4) (N + 2) (N + 3) N (N + 1) .none .none .none ∧ St1 0 h ∧ St2 0 h) where
  type _ ok := ok.1.typ
  notDict := by decide
  keep h h' ok k := ⟨⟨k _ _ ok.1.ob, k _ _ ok.1.ti, k _ _ ok.1.to⟩, k1 _ _ _ ok.2.1 fun b _ o e => k b o e, k2 _ _ _ ok.2.2 fun b _ o e => k b o e⟩
  there h ok c m := by
    obtain ⟨Z, a, b⟩ := ok
    rcases List.mem_append.mp m with m | m
    · simp only [List.mem_cons, List.not_mem_nil, or_false] at m
      rcases m with rfl | rfl | rfl | rfl | rfl
      · exact ⟨_, Z.ob⟩
      · exact ⟨_, Z.ti⟩
      · exact ⟨_, Z.to⟩
      · exact t1 h a _ List.mem_cons_self
      · exact t2 h b _ List.mem_cons_self
    · rcases List.mem_append.mp m with m | m
      · exact t1 h a _ (List.mem_cons_of_mem _ m)
      · exact t2 h b _ (List.mem_cons_of_mem _ m)
  sub c m := List.mem_append_left _ (mem_all m)
  noKeys A s Q E hA ok h := getAttrOr_miss_zip ok.1.ob rfl rfl rfl zip_no_keys (by decide +kernel) hA h
  iter A s d Q E hA ok _ nd h := ok.1.own (h _ _ _ s.heap s.toks (filling_src hA D1 D2 l1 l2 nd) ⟨ok.2.1, ok.2.2, .inl ⟨_, _, ok.1⟩⟩ (fun _ _ e => e) fun _ m => .inl m)
end
end Zn
end
section
set_option Elab.async false
set_option linter.all false
set_option maxRecDepth 100000
set_option maxHeartbeats 1000000
/-! list(d.values()), dict(zip(x, t, strict=True)), sorted(d.items()) as rules. -/
namespace Zn
open PySem PySem.Spec PyProof.Rows L2
section
variable {X : Cx} {e e1 e2 : Expr} {te : TE} {ta : TA} {p p2 apos cpos pos q kp cp : Pos} {ix : Nat}
/-- a builtin class on one argument: the argument is told, then the call of its value -/
theorem one_type {T : String} {n : Str} {pins : List (Addr × Obj)} {s : Shared} {σ : L2.St} {H : Hp} {Q E : Value → Shared → Prop} (I : Inv X pins σ H s) (hg : Gl X n) (hm : X.mg n = none) (hv : bootBuiltins n = some (.type T)) (hn : n ≠ "__name__") (hd : (n == ("__debug__" : Str)) = false)
    (hs : starEach [e1] X.env = (false, eval e1 X.env) :: starEach [] X.env) (h : wpAny (model X.prog X.w) X.A (eval e1 X.env) (fun v s1 => wpAny (model X.prog X.w) X.A (call (.type T) [v]) Q E s1) E s) : wpAny (model X.prog X.w) X.A (eval (.Call (.Name n p) [e1] [] pos) X.env) Q E s := by
  have h' : wpAny (model X.prog X.w) X.A (spliced (backTo pos (starEach [e1] X.env))) (fun vs s1 => wpAny (model X.prog X.w) X.A (call (.type T) vs) Q E s1) E s := by
    rw [hs]
    exact Calls.spliced_cons (wpAny_mono h (fun v s1 k => Calls.spliced_nil k) fun _ _ x => x)
  exact wpAny_Call_Name_kw (ld_blt I hg hm hv (callWith_type1 h' hs rfl) hn hd)
theorem one_builtin {T : String} {n : Str} {pins : List (Addr × Obj)} {s : Shared} {σ : L2.St} {H : Hp} {Q E : Value → Shared → Prop} (I : Inv X pins σ H s) (hg : Gl X n) (hm : X.mg n = none) (hv : bootBuiltins n = some (.builtin T)) (hn : n ≠ "__name__") (hd : (n == ("__debug__" : Str)) = false)
    (hs : starEach [e1] X.env = (false, eval e1 X.env) :: starEach [] X.env) (h : wpAny (model X.prog X.w) X.A (eval e1 X.env) (fun v s1 => wpAny (model X.prog X.w) X.A (call (.builtin T) [v]) Q E s1) E s) : wpAny (model X.prog X.w) X.A (eval (.Call (.Name n p) [e1] [] pos) X.env) Q E s := by
  have h' : wpAny (model X.prog X.w) X.A (spliced (backTo pos (starEach [e1] X.env))) (fun vs s1 => wpAny (model X.prog X.w) X.A (call (.builtin T) vs) Q E s1) E s := by
    rw [hs]
    exact Calls.spliced_cons (wpAny_mono h (fun v s1 k => Calls.spliced_nil k) fun _ _ x => x)
  exact wpAny_Call_Name_kw (ld_blt I hg hm hv (callWith_builtin1 h' hs rfl) hn hd)
/-! ### list(d.values()) -/
def tListVals (te : TE) : TE := fun σ H Q => te σ H fun x H1 => ∃ (d : Addr) (kvs : List (Key × V)), x = .ref d ∧ H1 d = some (.dK kvs) ∧ ∀ p, H1 p = none → Q (.ref p) (upd H1 p (.lst (kvs.map (·.2))))
theorem vals_of_kv {kvs : List (Key × V)} {vs : List (Key × Value)} (h : KV kvs vs) : Vals (kvs.map (·.2)) (vs.map (·.2)) := by
  induction h with
  | nil => exact .nil
  | cons h _ ih => exact .cons h.2 ih
theorem pe_listVals (hc : X.calm = true) (he : PE X e te) (hg : Gl X "list") (hm : X.mg "list" = none) (hbase : attributeBase e "values" X.env (eval e X.env) = eval e X.env) (hline : (apos.endLine == cpos.line) = true)
    (hs : starEach [.Call (.Attribute e "values" apos) [] [] cpos] X.env = (false, eval (.Call (.Attribute e "values" apos) [] [] cpos) X.env) :: starEach [] X.env) :
    PE X (.Call (.Name "list" p) [.Call (.Attribute e "values" apos) [] [] cpos] [] pos) (tListVals te) where
  run pins s σ H Q I hq := by
    refine one_type I hg hm (T := "list") (by decide +kernel) (by decide) (by decide) hs (wpAny_Call_method hbase rfl hline F.plainAttrs_dict F.slot_dict_values F.type_dict_values (thn (he.run pins s σ H _ I hq) ?_))
    rintro u s1 ⟨x, H1, I1, rx, d, kvs, rfl, hd, q⟩
    cases rx
    obtain ⟨hz, hs0, vs, kv, hdo⟩ := I1.hok d _ hd
    obtain ⟨ep, hat⟩ := hdo.dictAt
    let h1 := s1.heap.push { cls := .type "dict_values", data := .fields #[.ref d] }
    have I2 : Inv X pins σ H1 { s1 with heap := h1 } := I1.kept (t' := s1.toks) fun _ _ e => Heap.get?_push_of_some _ e
    have ln : vs.length ≤ sizeLine := (Paired.length kv) ▸ hz
    refine ⟨hdo.typeIs, hdo.mapOf.noDict, method_meetsIn F.slot_dict_values F.entry_dict_values rfl (PySem.evalArgs_none ⟨rfl, hdo.typeIs, F.args_dict_values_1 _, _, meets_dict_values (mixKind X.prog X.w) d hs0, ⟨vs, hdo⟩, ?_⟩)⟩
    refine PySem.W.kdl_call (PySem.W.kdl_values (knd := mixKind X.prog X.w) (kvs := vs) (ep := ep)) (I1.ok.hd hc) ⟨⟨_, Heap.get?_push_size _ rfl, rfl, rfl⟩, hat.push _⟩ ln ?_
    intro h' tk acc c hk hS hacc
    have ev : acc.toList = vs.map (·.2) := PySem.W.kdl_vals_eq _ (Array.length_toList.trans hacc.1) fun j v e => hacc.2 j v (Array.getElem?_toList.symm.trans e)
    have ok : ObjOk X.prog X.w (upd H1 h1.objs.size (.lst (kvs.map (·.2)))) h' h1.objs.size (.lst (kvs.map (·.2))) := ⟨by rw [List.length_map]; exact hz, acc.toList, c, ev ▸ vals_of_kv kv, by rw [Array.toArray_toList]; exact hS⟩
    exact ⟨.ref _, _, I2.laid (t' := tk) hk (Nat.le_refl _) ok, rfl, q _ (I2.hok.fresh (Nat.le_refl _))⟩
/-! ### dict(zip(x, t, strict=True)) -/
def skey (c : Nat) : Key := .inr ⟨#[c]⟩
def tDictZip (K : PySem.W.Frag) (ta : TA) : TE := fun σ H Q => ta σ H fun vs H1 => ∃ (x : Str) (b : Addr) (ys : List V), vs = [.str x, .ref b] ∧ SqT K H1 b ys ∧ x.cps.size = ys.length ∧
  ∀ p, H1 p = none → Q (.ref p) (upd H1 p (.dK (mergeK [] ((x.cps.toList.map skey).zip ys))))
theorem kv_zip {ys : List V} {us : List Value} (r : Vals ys us) : ∀ {ks : List Key}, ks.length = ys.length → KV (ks.zip ys) (ks.zip us) := by
  induction r with
  | nil => intro ks _; rw [List.zip_nil_right, List.zip_nil_right]; exact .nil
  | cons r _ ih =>
    intro ks h
    match ks, h with
    | k :: ks, h => exact .cons ⟨rfl, r⟩ (ih (Nat.succ.inj h))
theorem old_not {n c : Nat} (h : c < n) : c ∉ [n + 4, n + 3, n, n + 1] := by
  simp only [List.mem_cons, List.not_mem_nil, or_false]
  omega
theorem pe_dictZip (hc : X.calm = true) (ha : PA X [e, e2] ta) (hg : Gl X "dict") (hm : X.mg "dict" = none) (hg2 : Gl X "zip") (hm2 : X.mg "zip" = none)
    (hs : starEach [e, e2] X.env = (false, eval e X.env) :: starEach [e2] X.env) (hpl : (backTo q (starEach [e2] X.env)).any (·.1) = false)
    (hs2 : starEach [.Call (.Name "zip" p2) [e, e2] [⟨some "strict", .Constant (.bool true) ix cp, kp⟩] q] X.env = (false, eval (.Call (.Name "zip" p2) [e, e2] [⟨some "strict", .Constant (.bool true) ix cp, kp⟩] q) X.env) :: starEach [] X.env) :
    PE X (.Call (.Name "dict" p) [.Call (.Name "zip" p2) [e, e2] [⟨some "strict", .Constant (.bool true) ix cp, kp⟩] q] [] pos) (tDictZip X.K ta) where
  run pins s σ H Q I h := by
    refine one_type I hg hm (T := "dict") (by decide +kernel) (by decide) (by decide) hs2 (eval_zip I hg2 hm2 hs hpl (thn (ha.run q pins s σ H _ I h) ?_))
    rintro us s1 ⟨vs, H1, I1, r1, x, b, ys, rfl, hqy, hl, k⟩
    obtain ⟨_, _, rfl, ⟨t, rfl⟩, rfl⟩ := two_vals r1
    obtain ⟨its, rv, pt, big⟩ := I1.tuple hqy
    have hh : X.A.handled = none := I1.ok.hd hc
    have lb : b < s1.heap.objs.size := let ⟨_, e, _⟩ := pt; Heap.lt_size e
    have sz : x.cps.size = its.toArray.size := by rw [hl, List.size_toArray]; exact rv.length
    let N := s1.heap.objs.size
    let h' := plus s1.heap (zipCells N { cls := .type (strIterType x), data := .fields #[.str x t, .int 0 0] } { cls := .type "tuple_iterator", data := .fields #[.ref b, .int 0 0] })
    have d2 : ∀ A : Around, A.handled = none → Draws X.prog X.w A (N + 1) [N + 1, b] x.cps.size (fun i v => its.toArray[i]? = some v) fun i h => h.IsTupleIter (N + 1) b i ∧ h.IsTuple b its.toArray := fun A hA => by
      rw [sz]
      exact Draws.tuple hA (N + 1) b (Nat.ne_of_lt (Nat.lt_succ_of_lt lb)) its.toArray
    have d1 : ∀ A : Around, A.handled = none → Draws X.prog X.w A N [N] x.cps.size _ _ := fun A hA => Draws.text hA N x t
    have PZ := pair_zip (fp1 := []) (fp2 := [b]) d1 d2 (by simp) (by simpa using lb) (d1 X.A hh).frame (d2 X.A hh).frame (fun h st c m => by cases List.mem_singleton.mp m; exact let ⟨o, e, _⟩ := st; ⟨o, e⟩) (fun h st c m => by
      rcases List.mem_cons.mp m with rfl | m
      · exact let ⟨o, e, _⟩ := st.1; ⟨o, e⟩
      · cases List.mem_singleton.mp m; exact let ⟨o, e, _⟩ := st.2; ⟨o, e⟩)
    obtain ⟨Z, e1, e2⟩ := zip_cells (h := s1.heap) (begins_text x t).free (begins_tuple b its.toArray).free
    have old : ∀ c o, s1.heap.get? c = some o → h'.get? c = some o := fun c o e => plus_old _ e
    have hks : (x.cps.toList.map skey).length = ys.length := by rw [List.length_map, Array.length_toList]; exact hl
    refine zip_made (begins_text x t) (begins_tuple b its.toArray) trivial pt ?_
    refine PySem.call_dict_pairs (s := { s1 with heap := h' }) (knd := mixKind X.prog X.w) (kvs := (x.cps.toList.map skey).zip its) PZ hh ⟨Z, ⟨_, e1, rfl, rfl⟩, ⟨_, e2, rfl, rfl⟩, (show s1.heap.IsTuple b its.toArray from pt).at fun o e => old _ o e⟩ ⟨?_, ?_⟩ ?_ ?_
    · rw [List.length_zip, hks, ← hl, sz, List.size_toArray, Nat.min_self]
    · rintro i key v ⟨⟨c, u, hx, rfl⟩, hv⟩
      refine ⟨skey c, List.getElem?_zip_eq_some.mpr ⟨?_, (List.getElem?_toArray ..).symm.trans hv⟩, kV_is (P := X.prog) (w := X.w) (k := skey c) ⟨u, rfl⟩⟩
      rw [List.getElem?_map, Array.getElem?_toList, hx, Option.map_some]
    · rw [hl]
      exact big
    · intro h2 tk hd hk
      have I2 : Inv X pins σ H1 { s1 with heap := h' } := I1.kept (t' := s1.toks) old
      have lm : (mergeK [] ((x.cps.toList.map skey).zip ys)).length ≤ sizeLine := by
        have l1 := length_mergeK ((x.cps.toList.map skey).zip ys) []
        rw [List.length_zip, hks, Nat.min_self, List.length_nil, Nat.zero_add] at l1
        exact Nat.le_trans l1 big
      have ok : ObjOk X.prog X.w (upd H1 h'.objs.size (.dK (mergeK [] ((x.cps.toList.map skey).zip ys)))) h2 h'.objs.size (.dK (mergeK [] ((x.cps.toList.map skey).zip ys))) :=
        ⟨lm, beq_eq_false_iff_ne.mpr (Nat.ne_of_gt I2.big), merged [] ((x.cps.toList.map skey).zip its), KV.merge (kv_zip rv hks) .nil, hd⟩
      have le : s1.heap.objs.size ≤ h'.objs.size := (plus_size _ _).symm ▸ Nat.le_add_right _ _
      exact ⟨.ref _, _, I1.laid (t' := tk) (fun c o e => hk c o (old_not (Heap.lt_size e)) (old c o e)) le ok, rfl, k _ (I1.hok.fresh le)⟩
end
end Zn
end
section
set_option Elab.async false
set_option linter.all false
set_option maxRecDepth 100000
set_option maxHeartbeats 1000000
/-! sorted(d.items()) of a dict whose keys are ints that rise: the pairs stay in their order. -/
namespace Zn
open PySem PySem.Spec PyProof.Rows L2
/-- the pair of two ints at an address -/
def At2 (h : Heap) (a : Addr) (q : Int × Int) : Prop := ∃ t u, h.get? a = some { cls := .type "tuple", data := .seq #[.int q.1 t, .int q.2 u] }
def ints2 : List Value → Int × Int
  | [.int n _, .int m _] => (n, m)
  | _ => (0, 0)
/-- a pair's two ints, read off the heap -/
def keyOf (h : Heap) : Value → Int × Int
  | .ref a => match h.get? a with
    | some ob => match ob.data with
      | .seq xs _ => ints2 xs.toList
      | _ => (0, 0)
    | none => (0, 0)
  | _ => (0, 0)
theorem At2.key {h : Heap} {a : Addr} {q : Int × Int} (x : At2 h a q) : keyOf h (.ref a) = q := by
  obtain ⟨t, u, e⟩ := x
  simp [keyOf, e, ints2]
theorem pairs_at {prog : Program} {w : World} {K : Type} [DecidableEq K] {knd : PySem.KeyKind prog w K} {es : List DictEntry} {kvs : List (K × Value)} (h : Pairs knd es kvs) : ∀ {j : Nat} {e : DictEntry}, es[j]? = some e → ∃ q, kvs[j]? = some q ∧ knd.is q.1 e.key = true ∧ e.val = q.2 := by
  induction h with
  | nil => intro j e h; cases h
  | cons a b _ ih =>
    intro j e h
    cases j with
    | zero => cases h; exact ⟨_, rfl, a, b⟩
    | succ j => exact ih h
section
variable {prog : Program} {w : World} {A : Around} {E : Value → Shared → Prop} {s : Shared}
theorem made_pairs {es : Array DictEntry} {lo : Addr} {h : Heap} {as : List Addr} {vs : List (Key × Value)} {ns ms : List Int} (G : DT.Made es lo h as) (P : Pairs (mixKind prog w) es.toList vs) (kv : KV ((ns.map Sum.inl).zip (ms.map V.int)) vs)
    (la : as.length = ns.length) (lm : ns.length = ms.length) (j : Nat) (a : Addr) (e : as[j]? = some a) : ∃ q, (ns.zip ms)[j]? = some q ∧ At2 h a q := by
  have lt : j < ns.length := la ▸ (List.getElem?_eq_some_iff.mp e).1
  have e1 : ns[j]? = some ns[j] := List.getElem?_eq_getElem lt
  have e2 : ms[j]? = some (ms[j]'(lm ▸ lt)) := List.getElem?_eq_getElem _
  obtain ⟨en, g1, g2⟩ := G.pairs j a e
  obtain ⟨q0, g3, g4, g5⟩ := pairs_at P (Array.getElem?_toList.trans g1)
  have e3 : ((ns.map Sum.inl).zip (ms.map V.int))[j]? = some ((Sum.inl ns[j] : Key), V.int (ms[j]'(lm ▸ lt))) := List.getElem?_zip_eq_some.mpr ⟨by rw [List.getElem?_map, e1]; rfl, by rw [List.getElem?_map, e2]; rfl⟩
  obtain ⟨q1, g6, g7, u, g8⟩ := LiI.paired_get kv e3
  cases Option.some.inj (g3.symm.trans g6)
  obtain ⟨t, g9⟩ := relV_key (k := Sum.inl ns[j]) (u := en.key) (by have g := g4; rw [← g7] at g; exact g)
  refine ⟨(ns[j], ms[j]'(lm ▸ lt)), List.getElem?_zip_eq_some.mpr ⟨e1, e2⟩, t, u, ?_⟩
  rw [g2, g9, g5, g8]
/-- the sort of a list of rising pairs leaves it -/
theorem sort_stays {p : Addr} {as : List Addr} {qs : List (Int × Int)} {Q : Value → Shared → Prop} (hob : s.heap.get? p = some (seqObj "list" (as.map Value.ref).toArray 0)) (pr : ∀ (j : Nat) (a : Addr), as[j]? = some a → ∃ q, qs[j]? = some q ∧ At2 s.heap a q) (inc : qs.Pairwise fun x y => x.1 < y.1) (sz : as.length ≤ sizeLine)
    (k : Q .none { s with heap := sortedHeap s.heap p (as.map Value.ref) (as.map Value.ref).toArray }) : wpAny (model prog w) A (call (.builtin "list.sort") [.ref p]) Q E s := by
  have srt : SrtO.Srtd (fun v u => SrtO.lexB (keyOf s.heap v) (keyOf s.heap u)) (as.map Value.ref) := by
    refine List.pairwise_map.mpr (List.pairwise_iff_getElem.mpr fun i j hi hj lt => ?_)
    obtain ⟨x, ex, ax⟩ := pr i _ (List.getElem?_eq_getElem hi)
    obtain ⟨y, ey, ay⟩ := pr j _ (List.getElem?_eq_getElem hj)
    obtain ⟨hx, rfl⟩ := List.getElem?_eq_some_iff.mp ex
    obtain ⟨hy, rfl⟩ := List.getElem?_eq_some_iff.mp ey
    have r := List.pairwise_iff_getElem.mp inc i j hx hy lt
    show SrtO.lexB (keyOf s.heap (.ref as[j])) (keyOf s.heap (.ref as[i])) = false
    rw [ax.key, ay.key]
    exact SrtO.lexB_no.mpr (by omega)
  have hp : ∀ v ∈ as.map Value.ref, Srt.IsPair s.heap v (keyOf s.heap v).1 (keyOf s.heap v).2 := by
    intro v m
    obtain ⟨a, ma, rfl⟩ := List.mem_map.mp m
    obtain ⟨j, hj⟩ := List.mem_iff_getElem?.mp ma
    obtain ⟨q, _, x⟩ := pr j a hj
    rw [x.key]
    obtain ⟨t, u, e⟩ := x
    exact ⟨a, _, t, u, 0, rfl, e, rfl, rfl⟩
  have nt : ∀ o, s.heap.get? p = some o → o.cls ≠ .type "tuple" := fun o e c => by
    rw [hob] at e
    cases e
    exact absurd (Value.type.inj c) (by decide)
  refine wpAny_call_entry slot_list_sort ⟨_, hob, rfl⟩ entry_list_sort (SrtO.list_sort_ord (SrtO.swo_lex (keyOf s.heap)) hob (by rw [List.length_map]; exact sz) (fun two => SrtO.pairs_sortableO (Nat.lt_of_lt_of_le Nat.zero_lt_two two) hp nt) fun out o1 o2 => ⟨.none, rfl, ?_⟩) (args_list_sort _)
  cases SrtO.stb_uniq (SrtO.swo_lex (keyOf s.heap)) o1 srt o2
  exact k
end
theorem refs_vals : ∀ as : List Addr, Vals (as.map V.ref) (as.map Value.ref)
  | [] => .nil
  | _ :: as => .cons rfl (refs_vals as)
theorem paired_of {α β : Type} {F : α → β → Prop} : ∀ {xs : List α} {ys : List β}, xs.length = ys.length → (∀ (j : Nat) (x : α) (y : β), xs[j]? = some x → ys[j]? = some y → F x y) → Paired F xs ys
  | [], [], _, _ => .nil
  | x :: xs, y :: ys, h, k => .cons (k 0 x y rfl rfl) (paired_of (Nat.succ.inj h) fun j => k (j + 1))
section
variable {X : Cx} {e : Expr} {te : TE} {p apos cpos pos : Pos}
def tSortItems (te : TE) : TE := fun σ H Q => te σ H fun x H1 => ∃ (d : Addr) (ns ms : List Int), x = .ref d ∧ H1 d = some (.dK ((ns.map Sum.inl).zip (ms.map V.int))) ∧ ns.length = ms.length ∧ ns.Pairwise (· < ·) ∧
  ∀ (H' : Hp) (p : Addr) (ts : List Addr), (∀ b o, H1 b = some o → H' b = some o) → H1 p = none → (∀ t ∈ ts, H1 t = none) → p ∉ ts → H' p = some (.lst (ts.map V.ref)) → Paired (fun (t : Addr) (q : Int × Int) => H' t = some (.tup [.int q.1, .int q.2])) ts (ns.zip ms) → Q (.ref p) H'
/-- what the rows of objects made by a sort are to the heap told -/
theorem take_pairs {pins : List (Addr × Obj)} {s : Shared} {σ : L2.St} {H : Hp} {h2 : Heap} {tk p : Nat} {as : List Addr} {qs : List (Int × Int)} (I : Inv X pins σ H s) (nd : as.Nodup) (above : ∀ a ∈ as, s.heap.objs.size ≤ a) (np : p ∉ as) (lp : s.heap.objs.size ≤ p)
    (len : as.length = qs.length) (pr : ∀ (j : Nat) (a : Addr), as[j]? = some a → ∃ q, qs[j]? = some q ∧ At2 h2 a q) (I3 : Inv X pins σ (upd H p (.lst (as.map V.ref))) { s with heap := h2, toks := tk }) :
    ∃ H2, Inv X pins σ H2 { s with heap := h2, toks := tk } ∧ (∀ b o, H b = some o → H2 b = some o) ∧ H2 p = some (.lst (as.map V.ref)) ∧ Paired (fun (t : Addr) (q : Int × Int) => H2 t = some (.tup [.int q.1, .int q.2])) as qs := by
  have fr : ∀ a, s.heap.objs.size ≤ a → H a = none := fun a l => I.hok.fresh l
  obtain ⟨H2, I4, g1, g2⟩ := L2.DX.takeT (P := fun a vs => ∃ (j : Nat) (q : Int × Int), as[j]? = some a ∧ qs[j]? = some q ∧ vs = [.int q.1, .int q.2]) I as _ I3 nd fun a m => by
    obtain ⟨j, hj⟩ := List.mem_iff_getElem?.mp m
    obtain ⟨q, eq, t, u, ea⟩ := pr j a hj
    have ne : a ≠ p := fun z => np (z ▸ m)
    exact ⟨above a m, (upd_ne ne).trans (fr a (above a m)), _, ⟨j, q, hj, eq, rfl⟩, fun H3 => ⟨by show 2 ≤ sizeLine; decide, _, .cons ⟨t, rfl⟩ (.cons ⟨u, rfl⟩ .nil), _, ea, rfl, _, rfl⟩⟩
  refine ⟨H2, I4, fun b o e => g1 b o ?_, g1 _ _ upd_same, paired_of len fun j a q e1 e2 => ?_⟩
  · have ne : b ≠ p := fun z => by rw [z, fr p lp] at e; cases e
    exact (upd_ne ne).trans e
  · obtain ⟨_, ⟨j', q', f1, f2, rfl⟩, f3⟩ := g2 a (List.mem_of_getElem? e1)
    obtain ⟨l1, z1⟩ := List.getElem?_eq_some_iff.mp f1
    obtain ⟨l2, z2⟩ := List.getElem?_eq_some_iff.mp e1
    cases (List.getElem_inj nd).mp (z1.trans z2.symm)
    cases Option.some.inj (f2.symm.trans e2)
    exact f3
theorem pe_sortItems (hc : X.calm = true) (he : PE X e te) (hg : Gl X "sorted") (hm : X.mg "sorted" = none) (hbase : attributeBase e "items" X.env (eval e X.env) = eval e X.env) (hline : (apos.endLine == cpos.line) = true)
    (hs : starEach [.Call (.Attribute e "items" apos) [] [] cpos] X.env = (false, eval (.Call (.Attribute e "items" apos) [] [] cpos) X.env) :: starEach [] X.env) :
    PE X (.Call (.Name "sorted" p) [.Call (.Attribute e "items" apos) [] [] cpos] [] pos) (tSortItems te) where
  run pins s σ H Q I hq := by
    refine one_builtin I hg hm (T := "sorted") (by decide +kernel) (by decide) (by decide) hs (wpAny_Call_method hbase rfl hline F.plainAttrs_dict F.slot_dict_items F.type_dict_items (thn (he.run pins s σ H _ I hq) ?_))
    rintro u s1 ⟨x, H1, I1, rx, d, ns, ms, rfl, hd, lm, inc, k⟩
    cases rx
    obtain ⟨hz, hs0, vs, kv, hdo⟩ := I1.hok d _ hd
    obtain ⟨o, es, ep, ho, hx, hdat, hes, his⟩ := id hdo
    have lz : ((ns.map Sum.inl).zip (ms.map V.int) : List (Key × V)).length = ns.length := by rw [List.length_zip, List.length_map, List.length_map, ← lm, Nat.min_self]
    have big : ns.length ≤ sizeLine := lz ▸ hz
    have le : es.size = ns.length := Array.length_toList.symm.trans (his.1.length.trans ((Paired.length kv).symm.trans lz))
    let h1 := s1.heap.push { cls := .type "dict_items", data := .fields #[.ref d] }
    have I2 : Inv X pins σ H1 { s1 with heap := h1 } := I1.kept (t' := s1.toks) fun _ _ e => Heap.get?_push_of_some _ e
    refine ⟨hdo.typeIs, hdo.mapOf.noDict, method_meetsIn F.slot_dict_items F.entry_dict_items rfl (PySem.evalArgs_none ⟨rfl, hdo.typeIs, F.args_dict_items_1 _, _, meets_dict_items (mixKind X.prog X.w) d hs0, ⟨vs, hdo⟩, ?_⟩)⟩
    refine DT.sortedI (s := { s1 with heap := h1 }) (es := es) (ep := ep) (I1.ok.hd hc) ⟨_, Heap.get?_push_size _ rfl, rfl, rfl⟩ (DT.Raw.push ⟨o, ho, hx, hdat⟩ _) (le ▸ big) ?_
    intro h' tk as hk lt la G
    have la' : as.length = ns.length := la.trans le
    have nd : as.Nodup := G.rise.imp Nat.ne_of_lt
    let h2 := h'.push { cls := .type "list", data := .seq (as.map Value.ref).toArray }
    have up : ∀ b o, h'.get? b = some o → h2.get? b = some o := fun b o e => Heap.get?_push_of_some _ e
    have e2 : h2.get? h'.objs.size = some (seqObj "list" (as.map Value.ref).toArray 0) := Heap.get?_push_size _ rfl
    have pr : ∀ (j : Nat) (a : Addr), as[j]? = some a → ∃ q, (ns.zip ms)[j]? = some q ∧ At2 h' a q := made_pairs G his.1 kv la' lm
    have inc' : (ns.zip ms).Pairwise fun x y => x.1 < y.1 := by
      have := inc
      rw [← List.map_fst_zip (l₁ := ns) (l₂ := ms) (Nat.le_of_eq lm)] at this
      exact List.pairwise_map.mp this
    refine sort_stays (s := { s1 with heap := h2, toks := tk }) e2 (fun j a e => let ⟨q, x, t, u, y⟩ := pr j a e; ⟨q, x, t, u, up _ _ y⟩) inc' (la' ▸ big) ?_
    have old : ∀ b o, h'.get? b = some o → (sortedHeap h2 h'.objs.size (as.map Value.ref) (as.map Value.ref).toArray).get? b = some o := fun b o e => by
      have l := Heap.lt_size e
      exact (sortedHeap_old (Nat.ne_of_lt l) (Heap.lt_size (up _ _ e))).trans (up _ _ e)
    obtain ⟨ep', e3⟩ := sortedHeap_at (vs := as.map Value.ref) (out := (as.map Value.ref).toArray) e2
    have ok : ObjOk X.prog X.w (upd H1 h'.objs.size (.lst (as.map V.ref))) (sortedHeap h2 h'.objs.size (as.map Value.ref) (as.map Value.ref).toArray) h'.objs.size (.lst (as.map V.ref)) := ⟨by rw [List.length_map]; exact la' ▸ big, _, ep', refs_vals as, e3⟩
    have np : h'.objs.size ∉ as := fun m => Nat.lt_irrefl _ (G.there m)
    have ab : ∀ a ∈ as, h1.objs.size ≤ a := fun a m => Nat.le_of_lt (G.above a m)
    obtain ⟨H2, I4, g1, g2, g3⟩ := take_pairs I2 nd ab np (Nat.le_of_lt lt) (by rw [List.length_zip, ← lm, Nat.min_self]; exact la') (fun j a e => let ⟨q, x, t, u, y⟩ := pr j a e; ⟨q, x, t, u, old _ _ y⟩) (I2.laid (t' := tk) (fun b o e => old b o (hk b o e)) (Nat.le_of_lt lt) ok)
    exact ⟨.ref _, H2, I4, rfl, k H2 _ as g1 (I2.hok.fresh (Nat.le_of_lt lt)) (fun t m => I2.hok.fresh (ab t m)) np g2 g3⟩
end
end Zn
end
section
set_option Elab.async false
set_option linter.all false
set_option maxRecDepth 100000
set_option maxHeartbeats 2000000
/-! Dicts keyed by tuples of ints and bools. -/
namespace Dl
open PySem PySem.Spec PyProof.Rows L2

/-- a key as data -/
def keyDs : List D → Option (List Int)
  | [] => some []
  | .int i :: ds => (keyDs ds).map (i :: ·)
  | .bl b :: ds => (keyDs ds).map ((if b then 1 else 0) :: ·)
  | _ :: _ => none
theorem keyV_of {T : Addr} {H : Hp} : ∀ {ds : List D} {vs : List V} {k : List Int}, keyDs ds = some k → Reps T H ds vs → keyV k vs
  | [], vs, k, h, r => by cases h; rw [r.nil_iff]; exact rfl
  | .int i :: ds, vs, k, h, r => by
    obtain ⟨v, us, rfl, h1, h2⟩ := r.cons_iff
    unfold keyDs at h
    obtain ⟨k', e, rfl⟩ := Option.map_eq_some_iff.mp h
    exact ⟨v, us, rfl, .inl (rep_int.mp h1), keyV_of e h2⟩
  | .bl b :: ds, vs, k, h, r => by
    obtain ⟨v, us, rfl, h1, h2⟩ := r.cons_iff
    unfold keyDs at h
    obtain ⟨k', e, rfl⟩ := Option.map_eq_some_iff.mp h
    exact ⟨v, us, rfl, .inr ⟨b, rep_bl.mp h1, rfl⟩, keyV_of e h2⟩
  | .non :: _, _, _, h, _ => by cases h
  | .str _ :: _, _, _, h, _ => by cases h
  | .tup _ :: _, _, _, h, _ => by cases h
  | .lst _ :: _, _, _, h, _ => by cases h
  | .dk _ _ :: _, _, _, h, _ => by cases h
  | .ins _ :: _, _, _, h, _ => by cases h
theorem nested_all {h : Heap} : ∀ {k : List Int} {vs : List V} {us : List Value}, keyV k vs → Vals vs us → NestedAll h (k.map .num) us
  | [], vs, us, hv, r => by
    cases (show vs = [] from hv)
    cases r
    exact .nil
  | i :: k, vs, us, hv, r => by
    obtain ⟨v, ws, rfl, hi, hk⟩ := hv
    cases r with
    | cons r1 r2 =>
      refine .cons ?_ (nested_all hk r2)
      rcases hi with rfl | ⟨b, rfl, e⟩
      · obtain ⟨t, rfl⟩ := r1
        exact .int i t
      · cases (show _ = Value.bool b from r1)
        exact .bool e
theorem depth_nums : ∀ (k : List Int), NestedKey.depthAll (k.map .num) = 0
  | [] => rfl
  | i :: k => by rw [List.map_cons]; unfold NestedKey.depthAll; rw [depth_nums k]; simp [NestedKey.depth]
theorem nk_depth (k : List Int) : (nk k).depth ≤ 8 := by
  unfold nk NestedKey.depth
  rw [depth_nums]
  omega
theorem nk_inj {k k' : List Int} (h : nk k = nk k') : k = k' := by
  unfold nk at h
  injection h with h
  have : ∀ {a b : List Int}, a.map NestedKey.num = b.map NestedKey.num → a = b := by
    intro a
    induction a with
    | nil => intro b h; cases b with
      | nil => rfl
      | cons _ _ => cases h
    | cons x a ih => intro b h; cases b with
      | nil => cases h
      | cons y b =>
        rw [List.map_cons, List.map_cons] at h
        injection h with h1 h2
        injection h1 with h1
        rw [h1, ih h2]
  exact this h
section
variable {X : Cx} {pins : List (Addr × Obj)} {σ : L2.St} {H : Hp} {s : Shared} {T : Addr} {H0 : Hp} {kvs : List (List Int × D)} {ents : List Ent} {d : Addr} {k : List Int} {x : D}
theorem nested_of {a : Addr} {vs : List V} (I : Inv X pins σ H s) (h : H a = some (.tup vs)) (hv : keyV k vs) : (nestedKind X.prog X.w).is s.heap (nk k) a := by
  obtain ⟨_, its, rv, o, ho, hc, n, hd⟩ := (show ObjOk X.prog X.w H s.heap a (.tup vs) from I.hok a _ h)
  exact ⟨.tup ho hc hd (by simpa using nested_all hv rv), nk_depth k⟩
theorem ents_is (I : Inv X pins σ H s) (ex : Same H0 H) (E : Ents T H0 kvs ents) : ∀ y ∈ ents, (nestedKind X.prog X.w).is s.heap y.1 y.2.1 := by
  induction E with
  | nil => intro y h; simp at h
  | cons hk hv r h t ih =>
    intro y hy
    rcases List.mem_cons.mp hy with e | hy
    · subst e; exact nested_of I (ex _ _ hk) hv
    · exact ih y hy
theorem dictH_of (I : Inv X pins σ H s) (ex : Same H0 H) (E : Ents T H0 kvs ents) (hd : H d = some (.ext (dictAt X.prog X.w d ents))) :
    s.heap.DictOfH (nestedKind X.prog X.w) d ents ∧ (d == sysModules) = false ∧ ents.length ≤ sizeLine := by
  obtain ⟨⟨hs, hz, o, es, ep, ho, hc, hdd, he, hn⟩, _⟩ := I.hok d _ hd
  exact ⟨⟨o, es, ep, ho, hc, hdd, he, ents_is I ex E, hn⟩, hs, hz⟩
def tGet (kvs : List (List Int × D)) (k : List Int) : Option D := (kvs.find? fun q => decide (q.1 = k)).map (·.2)
theorem ents_at (E : Ents T H0 kvs ents) (h : tGet kvs k = some x) : ∃ a u v, atKey ents (nk k) = some (a, u) ∧ RelV v u ∧ Rep T H0 x v := by
  induction E with
  | nil => cases h
  | @cons k' d' xa xv vs v kvs ents hk hv r hr t ih =>
    unfold tGet at h
    rw [List.find?_cons] at h
    unfold atKey
    rw [List.find?_cons]
    by_cases e : k' = k
    · subst e
      have h : d' = x := by simpa using h
      subst h
      exact ⟨xa, xv, v, by simp, r, hr⟩
    · have e2 : ¬ nk k' = nk k := fun z => e (nk_inj z)
      simp only [e, decide_false] at h
      simp only [e2, decide_false]
      exact ih h
theorem ents_no (E : Ents T H0 kvs ents) (h : tGet kvs k = none) : atKey ents (nk k) = none := by
  induction E with
  | nil => rfl
  | @cons k' d' xa xv vs v kvs ents hk hv r hr t ih =>
    unfold tGet at h
    rw [List.find?_cons] at h
    unfold atKey
    rw [List.find?_cons]
    by_cases e : k' = k
    · subst e
      simp at h
    · have e2 : ¬ nk k' = nk k := fun z => e (nk_inj z)
      simp only [e, decide_false] at h
      simp only [e2, decide_false]
      exact ih h
theorem ents_len (E : Ents T H0 kvs ents) : ents.length = kvs.length := by
  induction E with
  | nil => rfl
  | cons _ _ _ _ _ ih => simp [ih]
theorem Ents.snoc {xa : Addr} {xv : Value} {vs : List V} {v : V} (E : Ents T H0 kvs ents) (hk : H0 xa = some (.tup vs)) (hv : keyV k vs) (r : RelV v xv) (h : Rep T H0 x v) : Ents T H0 (kvs ++ [(k, x)]) (ents ++ [(nk k, xa, xv)]) := by
  induction E with
  | nil => exact .cons hk hv r h .nil
  | cons hk' hv' r' h' t ih => exact .cons hk' hv' r' h' ih
theorem dictAt_ok {P : Program} {w : World} {H : Hp} {h : Heap} {a : Addr} {ents : List Ent} (R : dictAt P w a ents h) : ObjOk P w H h a (.ext (dictAt P w a ents)) := by
  obtain ⟨hs, hz, o, es, ep, ho, r⟩ := id R
  refine ⟨R, ⟨o, ho⟩, fun h1 h2 p k => ?_⟩
  obtain ⟨hs, hz, o, es, ep, ho, r⟩ := p
  exact ⟨hs, hz, o, es, ep, k _ ho, r⟩
end
section
variable {X : Cx} {F : Fm} {δ : List LV} {a b c e o tg : Expr} {es : List Expr} {x y z : D} {pos p p2 : Pos} {σ : L2.St} {H : Hp} {xs ys : List D} {kvs : List (List Int × D)} {k : List Int} {Φ : DE}
theorem pe_tvar (i : Nat) {n : Str} (hP : F.P = X.prog) (hW : F.w = X.w) (hl : δ[i]? = some (.T kvs)) (hN : X.N[i]? = some n) (hv : Vis X.env.scope n) (hd : (n == ("__debug__" : Str)) = false) (hcd : (n == ("__classdict__" : Str)) = false) :
    PE X (.Name n p) (fun σ H Q => ∃ H0, SRep F H0 σ H δ ∧ ∀ q ents, σ[i]? = some (some (.ref q)) → H0 q = none → H q = some (.ext (dictAt X.prog X.w q ents)) → Ents F.T H0 kvs ents → Q (.ref q) H) := PE.imp (pe_var (i := i) hN hv hd hcd) fun σ H Q ⟨H0, S, k⟩ => by
  obtain ⟨q, e, h0, hb, ents, e1, E⟩ := S.own i _ hl rfl
  exact ⟨.ref q, e, k q ents e h0 (by rw [← hP, ← hW]; exact e1) E⟩
/-- t[k] -/
theorem x_tget (i : Nat) {n : Str} (hu : X.A.units + 64 < cLine) (hb : XE X F b δ (.tup ys)) (hl : δ[i]? = some (.T kvs)) (hk : keyDs ys = some k) (hx : tGet kvs k = some x) (hs : NoSl b := by exact fun _ _ => rfl) (hP : F.P = X.prog := by rfl) (hW : F.w = X.w := by rfl) (hN : X.N[i]? = some n := by rfl)
    (hv : Vis X.env.scope n := by first | exact Or.inl rfl | exact Or.inr (Or.inl rfl) | exact Or.inr (Or.inr rfl)) (hd : (n == ("__debug__" : Str)) = false := by decide) (hcd : (n == ("__classdict__" : Str)) = false := by decide) :
    XE X F (.Subscript (.Name n p) b pos) δ x := by
  refine ⟨fun pins s σ H Q I ⟨H0, S, K⟩ => ?_⟩
  refine subD_of PySem.F.slot_dict_getitem.lookup hs (thn ((pe_tvar i hP hW hl hN hv hd hcd).run pins s σ H (fun v H1 => H1 = H ∧ ∃ q, v = .ref q ∧ σ[i]? = some (some (.ref q))) I ⟨H0, S, fun q ents e h0 e1 E => ⟨rfl, q, rfl, e⟩⟩) fun u s1 ⟨v, H1, I1, rv, eH, q, ev, eq⟩ => ?_)
  subst eH ev
  obtain rfl : u = Value.ref q := rv
  refine thn (hb.run pins s1 σ H1 _ I1 ⟨H0, S, fun v H' H0' g r => (⟨H0', g, r⟩ : ∃ H0', Gr H0 H1 H0' H' ∧ Rep F.T H0' (.tup ys) v)⟩) fun iv s2 ⟨y, H2, I2, ry, H02, g, r⟩ => ?_
  obtain ⟨b', vs, rfl, e2, rs⟩ := rep_tup.mp r
  obtain rfl : iv = Value.ref b' := ry
  have S2 := S.gr g
  obtain ⟨q', eq', _, _, ents, e3, E⟩ := S2.own i _ hl rfl
  rw [eq] at eq'
  cases eq'
  rw [hP, hW] at e3
  obtain ⟨D2, hs2, hz2⟩ := dictH_of I2 g.ex E e3
  obtain ⟨a', u', v', a1, a2, a3⟩ := ents_at E hx
  refine ⟨D2.typeIs, wpAny_getItem_heap (by show X.A.units + 1 + 8 < cLine; omega) (nested_of I2 (g.ex _ _ e2) (keyV_of hk rs)) D2 a1 ?_⟩
  exact ⟨v', H2, I2.tok _, a2, K v' H2 H02 g a3⟩
/-- k not in t -/
theorem t_tnotin (i : Nat) {n : Str} (hu : X.A.units + 64 < cLine) (hb : XE X F b δ (.tup ys)) (hl : δ[i]? = some (.T kvs)) (hk : keyDs ys = some k) (hP : F.P = X.prog := by rfl) (hW : F.w = X.w := by rfl) (hN : X.N[i]? = some n := by rfl)
    (hv : Vis X.env.scope n := by first | exact Or.inl rfl | exact Or.inr (Or.inl rfl) | exact Or.inr (Or.inr rfl)) (hd : (n == ("__debug__" : Str)) = false := by decide) (hcd : (n == ("__classdict__" : Str)) = false := by decide) (h1 : behindInMarks .NotIn (.Name n p) = false := by rfl) :
    XT X F (.Compare b [.NotIn] [.Name n p] pos) δ (!(tGet kvs k).isSome) := by
  have hc : PC X .NotIn b (.Name n p) (tX F δ (.bl (!(tGet kvs k).isSome))) := by
    refine ⟨fun pins s σ H Q I ⟨H0, S, K⟩ => ?_⟩
    refine thn (hb.run pins s σ H _ I ⟨H0, S, fun v H' H0' g r => (⟨H0', g, r⟩ : ∃ H0', Gr H0 H H0' H' ∧ Rep F.T H0' (.tup ys) v)⟩) fun iv s1 ⟨y, H1, I1, ry, H01, g, r⟩ => ?_
    obtain ⟨b', vs, rfl, e2, rs⟩ := rep_tup.mp r
    obtain rfl : iv = Value.ref b' := ry
    have S1 := S.gr g
    refine thn ((pe_tvar (p := p) i hP hW hl hN hv hd hcd).run pins s1 σ H1 (fun v H2 => H2 = H1 ∧ ∃ q ents, v = .ref q ∧ H1 q = some (.ext (dictAt X.prog X.w q ents)) ∧ Ents F.T H01 kvs ents) I1 ⟨H01, S1, fun q ents e h0 e1 E => ⟨rfl, q, ents, rfl, e1, E⟩⟩) fun u s2 ⟨v, H2, I2, rv, eH, q, ents, ev, e3, E⟩ => ?_
    subst eH ev
    obtain rfl : u = Value.ref q := rv
    obtain ⟨D2, hs2, hz2⟩ := dictH_of I2 g.ex E e3
    have key := nested_of I2 (g.ex _ _ e2) (keyV_of hk rs)
    show wpAny _ _ (do return Value.bool (!(← contains (.ref q) (.ref b')))) _ _ _
    refine wpAny_bind (wpAny_contains_heap (by show X.A.units + 1 + 8 < cLine; omega) key hs2 D2 (wpAny_pure ?_))
    refine ⟨.bl (!(tGet kvs k).isSome), H2, I2.tok _, ?_, K _ H2 H01 g (rep_bl.mpr rfl)⟩
    show Value.bool _ = Value.bool _
    cases hx : tGet kvs k with
    | none => rw [ents_no E hx]; rfl
    | some x =>
      obtain ⟨a', u', v', a1, _⟩ := ents_at E hx
      rw [a1]; rfl
  exact PT.imp (pt_cmp hc h1) fun σ H Q ⟨H0, S, c⟩ => ⟨H0, S, fun v H' H0' g r => ⟨_, rep_bl.mp r, c H' H0' g⟩⟩
/-- t[k] = e, k new -/
theorem hs_tput (i : Nat) {n : Str} (hu : X.A.units + 64 < cLine) (he : XE X F e δ x) (hb : XE X F b δ (.tup ys)) (hl : δ[i]? = some (.T kvs)) (hk : keyDs ys = some k) (hx : tGet kvs k = none) (hz : kvs.length ≤ 1000000) (h : Φ.nx (δ.set i (.T (kvs ++ [(k, x)])))) (hP : F.P = X.prog := by rfl) (hW : F.w = X.w := by rfl) (hN : X.N[i]? = some n := by rfl)
    (hv : Vis X.env.scope n := by first | exact Or.inl rfl | exact Or.inr (Or.inl rfl) | exact Or.inr (Or.inr rfl)) (hd : (n == ("__debug__" : Str)) = false := by decide) (hcd : (n == ("__classdict__" : Str)) = false := by decide)
    (hs : swapsWith e (some (.Subscript (.Name n p) b p2)) pos.line X.env = pure false := by rfl) : HS X F (.Assign [.Subscript (.Name n p) b p2] e pos) δ Φ := by
  refine ⟨fun pins s σ H E I ⟨H0, S, c⟩ => ?_⟩
  refine wpAny_Assign_Subscript (thn (he.run pins s σ H _ I ⟨H0, S, fun v H' H0' g r => (⟨H0', g, r⟩ : ∃ H0', Gr H0 H H0' H' ∧ Rep F.T H0' x v)⟩) fun r s1 ⟨v, H1, I1, rv, H01, g1, r1⟩ => ?_) hs
  have S1 := S.gr g1
  refine thn ((pe_tvar (p := p) i hP hW hl hN hv hd hcd).run pins s1 σ H1 (fun v H2 => H2 = H1 ∧ ∃ q, v = .ref q ∧ σ[i]? = some (some (.ref q))) I1 ⟨H01, S1, fun q ents e h0 e1 E => ⟨rfl, q, rfl, e⟩⟩) fun u s2 ⟨vd, H2, I2, rd, eH, q, ev, eq⟩ => ?_
  subst eH ev
  obtain rfl : u = Value.ref q := rd
  refine thn (hb.run pins s2 σ H2 _ I2 ⟨H01, S1, fun v H' H0' g r => (⟨H0', g, r⟩ : ∃ H0', Gr H01 H2 H0' H' ∧ Rep F.T H0' (.tup ys) v)⟩) fun iv s3 ⟨y, H3, I3, ry, H03, g3, r3⟩ => ?_
  obtain ⟨b', vs, rfl, e3, rs⟩ := rep_tup.mp r3
  obtain rfl : iv = Value.ref b' := ry
  have S3 := S1.gr g3
  obtain ⟨q', eq', h0, hbq, ents, e4, Em⟩ := S3.own i _ hl rfl
  rw [eq] at eq'
  cases eq'
  have e4' : H3 q = some (.ext (dictAt X.prog X.w q ents)) := by rw [← hP, ← hW]; exact e4
  obtain ⟨D3, hs3, hz3⟩ := dictH_of I3 g3.ex Em e4'
  have key := nested_of I3 (g3.ex _ _ e3) (keyV_of hk rs)
  have no := ents_no Em hx
  have ll := ents_len Em
  refine wpAny_setItem_heap (hsz := hz3) (by show X.A.units + 1 + 8 < cLine; omega) key D3 fun h' hm' hsb => ?_
  rw [storedH_new no] at hm'
  obtain ⟨o, es, ep, ho, hc, hdd, hee, _, hn⟩ := hm'
  have I4 : Inv X pins σ (upd H3 q (.ext (dictAt X.prog X.w q (ents ++ [(nk k, b', r)])))) { s3 with heap := h', toks := s3.toks + (nestedKind X.prog X.w).draws (nk k) } :=
    d_write I3 (by rw [e4']; exact True.intro) hsb ⟨o, ho⟩ (dictAt_ok ⟨hs3, by rw [List.length_append, List.length_singleton, ll, sizeLine_eq]; omega, o, es, ep, ho, hc, hdd, hee, hn⟩)
  refine ⟨σ, _, I4, c.nx σ _ H03 _ (g1.s0.trans g3.s0) (S3.mutate (l' := .T (kvs ++ [(k, x)])) hl rfl eq rfl ⟨_, ?_, Ents.snoc Em e3 (keyV_of hk rs) rv (Rep.mono g3.s0 _ _ r1)⟩) h⟩
  rw [upd_same, hP, hW]
/-- {k: e} -/
def tTd (F : Fm) (δ : List LV) (kvs : List (List Int × D)) : TE := fun σ H Q => ∃ H0, SRep F H0 σ H δ ∧ ∀ p ents H' H0', Gr H0 H H0' H' → H p = none → H0' p = none → H' p = some (.ext (dictAt F.P F.w p ents)) → Ents F.T H0' kvs ents → Q (.ref p) H'
abbrev XTd (X : Cx) (F : Fm) (e : Expr) (δ : List LV) (kvs : List (List Int × D)) : Prop := PE X e (tTd F δ kvs)
theorem td_one {kx : Expr} (hu : X.A.units + 64 < cLine) (hb : XE X F kx δ (.tup ys)) (he : XE X F e δ x) (hk : keyDs ys = some k) (hP : F.P = X.prog := by rfl) (hW : F.w = X.w := by rfl)
    (hshape : (evalEachOpt [some kx] X.env).zip ((evalEach [e] X.env).map fun v => do let x ← v; standAt pos; pure x) = [(some (eval kx X.env), do let x ← eval e X.env; standAt pos; pure x)] := by rfl) : XTd X F (.Dict [some kx] [e] pos) δ [(k, x)] := by
  refine ⟨fun pins s σ H Q I ⟨H0, S, K⟩ => ?_⟩
  have hn : H s.heap.objs.size = none := I.hok.fresh (Nat.le_refl _)
  have hsys : (s.heap.objs.size == sysModules) = false := beq_eq_false_iff_ne.mpr (Nat.ne_of_gt I.big)
  have new0 : ∀ {h' : Heap}, h'.DictOfH (nestedKind X.prog X.w) s.heap.objs.size [] → dictAt X.prog X.w s.heap.objs.size [] h' := fun ⟨o, es, ep, ho, hc, hdd, hee, _, hnn⟩ => ⟨hsys, Nat.zero_le _, o, es, ep, ho, hc, hdd, hee, hnn⟩
  have I1 : Inv X pins σ (upd H s.heap.objs.size (.ext (dictAt X.prog X.w s.heap.objs.size []))) { s with heap := s.heap.push { cls := .type "dict", data := .dict #[] } } :=
    I.laid (t' := s.toks) (fun _ _ q => Heap.get?_push_of_some _ q) (Nat.le_refl _) (dictAt_ok (new0 (Heap.DictOfH.new s.heap)))
  have g0 : Gr H0 H H0 (upd H s.heap.objs.size (.ext (dictAt X.prog X.w s.heap.objs.size []))) := Gr.laid S.ex hn
  have S1 := S.gr g0
  rw [arm_eval_Dict]
  have hsh : (evalEachOpt [some kx] X.env).zip ((evalEach [e] X.env).map fun v => do let x ← v; standAt pos; pure x) = [(eval kx X.env, (do let x ← eval e X.env; standAt pos; pure x : Sem Value))].map fun p => (some p.1, p.2) := hshape
  rw [hsh, dictDisplay_pairs _ (by simp) (by simp)]
  refine wpAny_bind (wpAny_standAt (wpAny_bind (wpAny_subDictH (knd := nestedKind X.prog X.w) (Q := fun d s' => wpAny (model X.prog X.w) X.A (pure (Value.ref d)) (EP X pins σ Q) X.xe s') (by show X.A.units + 8 < cLine; omega) (by simp) ?_)))
  refine evalPairs_cons (thn (hb.run pins _ σ _ _ I1 ⟨H0, S1, fun v H' H0' g r => (⟨H0', g, r⟩ : ∃ H0', Gr H0 _ H0' H' ∧ Rep F.T H0' (.tup ys) v)⟩) fun iv s2 ⟨y, H2, I2, ry, H02, g2, r2⟩ => ?_)
  obtain ⟨b', vs, rfl, e2, rs⟩ := rep_tup.mp r2
  obtain rfl : iv = Value.ref b' := ry
  have S2 := S1.gr g2
  refine wpAny_bind (thn (he.run pins s2 σ H2 _ I2 ⟨H02, S2, fun v H' H0' g r => (⟨H0', g, r⟩ : ∃ H0', Gr H02 H2 H0' H' ∧ Rep F.T H0' x v)⟩) fun r s3 ⟨v, H3, I3, rv, H03, g3, r3⟩ => ?_)
  refine wpAny_bind (wpAny_standAt (wpAny_pure ?_))
  refine evalPairs_nil ?_
  have g23 := g2.trans g3
  have hH3 : H3 s.heap.objs.size = some (.ext (dictAt X.prog X.w s.heap.objs.size [])) := g23.s _ _ upd_same
  have hH03 : H03 s.heap.objs.size = none := by
    cases z : H03 s.heap.objs.size with
    | none => rfl
    | some u =>
      rcases g23.nw _ _ z with w | w
      · rw [S.ex.free hn] at w; cases w
      · rw [upd_same] at w; cases w
  have e3 : H03 b' = some (.tup vs) := g3.s0 _ _ e2
  have key := nested_of I3 (g3.ex _ _ e3) (keyV_of hk rs)
  have D3 := (dictH_of (T := F.T) I3 (g3.ex) (Ents.nil) hH3).1
  refine ⟨[(nk k, b', r)], ⟨rfl, rfl, key, trivial⟩, D3, fun h' tk hm hsb => wpAny_pure ?_⟩
  obtain ⟨o, es, ep, ho, hc, hdd, hee, _, hnn⟩ := hm
  have I4 : Inv X pins σ (upd H3 s.heap.objs.size (.ext (dictAt X.prog X.w s.heap.objs.size [(nk k, b', r)]))) { s3 with heap := h', toks := tk } :=
    d_write I3 (by rw [hH3]; exact True.intro) hsb ⟨o, ho⟩ (dictAt_ok ⟨hsys, by show 1 ≤ sizeLine; decide, o, es, ep, ho, hc, hdd, hee, hnn⟩)
  exact ⟨.ref s.heap.objs.size, _, I4, rfl, K _ [(nk k, b', r)] _ H03 ((g0.trans g23).app hn hH03) hn hH03 (by rw [upd_same, hP, hW]) (.cons e3 (keyV_of hk rs) rv r3 .nil)⟩
end
end Dl
end
section
set_option Elab.async false
set_option linter.all false
set_option maxRecDepth 100000
set_option maxHeartbeats 2000000
/-! Several values at once; starred displays; dict views. -/
namespace Dl
open PySem PySem.Spec PyProof.Rows L2

section
variable {X : Cx} {F : Fm} {δ : List LV} {a b c e o tg : Expr} {es : List Expr} {x y z : D} {pos p p2 : Pos} {σ : L2.St} {H : Hp} {xs ys : List D} {Φ : DE}

/-! ### several values at once -/
def tV (F : Fm) (δ : List LV) (l : LV) : TE := fun σ H Q => ∃ H0, SRep F H0 σ H δ ∧ ∀ v H' H0', Gr H0 H H0' H' → IsV F H H0' H' v l → Q v H'
abbrev XV (X : Cx) (F : Fm) (e : Expr) (δ : List LV) (l : LV) : Prop := PE X e (tV F δ l)
theorem XE.v (h : XE X F e δ x) : XV X F e δ (.d x) := PE.imp h fun σ H Q ⟨H0, S, k⟩ => ⟨H0, S, fun v H' H0' g r => k v H' H0' g r⟩
theorem XL.v (h : XL X F e δ xs) : XV X F e δ (.L xs) := PE.imp h fun σ H Q ⟨H0, S, k⟩ => ⟨H0, S, fun q vs H' H0' g hq h0 hv r => k _ H' H0' g ⟨q, rfl, hq, h0, vs, hv, r⟩⟩
theorem XM.v {ks : List Key} (h : XM X F e δ ks xs) : XV X F e δ (.M ks xs) := PE.imp h fun σ H Q ⟨H0, S, k⟩ => ⟨H0, S, fun q vs H' H0' g hq h0 hv hl r => k _ H' H0' g ⟨q, rfl, hq, h0, vs, hv, hl, r⟩⟩
theorem XTd.v {kvs : List (List Int × D)} (h : XTd X F e δ kvs) : XV X F e δ (.T kvs) := PE.imp h fun σ H Q ⟨H0, S, k⟩ => ⟨H0, S, fun q ents H' H0' g hq h0 hv r => k _ H' H0' g ⟨q, rfl, hq, h0, ents, hv, r⟩⟩
/-- the values vs, made since H, are the ls; no two share an object -/
def IsVs (F : Fm) (H H0' H' : Hp) : List V → List LV → Prop
  | [], ls => ls = []
  | v :: vs, ls => ∃ l r, ls = l :: r ∧ IsV F H H0' H' v l ∧ IsVs F H H0' H' vs r ∧ ∀ q, v = .ref q → isOwn l = true → ∀ (k : Nat) (m : LV), r[k]? = some m → isOwn m = true → vs[k]? ≠ some (.ref q)
theorem IsV.own {H H0' H' : Hp} {v : V} {l : LV} {q : Addr} (r : IsV F H H0' H' v l) (e : v = .ref q) (io : isOwn l = true) : H q = none ∧ ∃ o, H' q = some o := by
  cases l with
  | un => cases io
  | d x => cases io
  | L xs => obtain ⟨q', e', hq, _, o⟩ := r; rw [e] at e'; cases e'; exact ⟨hq, o.some⟩
  | M ks xs => obtain ⟨q', e', hq, _, o⟩ := r; rw [e] at e'; cases e'; exact ⟨hq, o.some⟩
  | T kvs => obtain ⟨q', e', hq, _, o⟩ := r; rw [e] at e'; cases e'; exact ⟨hq, o.some⟩
  | N _ kvs => obtain ⟨q', e', hq, _, o⟩ := r; rw [e] at e'; cases e'; exact ⟨hq, o.some⟩
  | K _ _ _ => obtain ⟨q', e', hq, _, o⟩ := r; rw [e] at e'; cases e'; exact ⟨hq, o.some⟩
theorem IsV.from' {H0 H H1 H0' H' : Hp} {v : V} {l : LV} (s : Same H H1) (r : IsV F H1 H0' H' v l) : IsV F H H0' H' v l := by
  cases l with
  | un => exact r
  | d x => exact r
  | L xs => obtain ⟨q', e', hq, h0, o⟩ := r; exact ⟨q', e', s.free hq, h0, o⟩
  | M ks xs => obtain ⟨q', e', hq, h0, o⟩ := r; exact ⟨q', e', s.free hq, h0, o⟩
  | T kvs => obtain ⟨q', e', hq, h0, o⟩ := r; exact ⟨q', e', s.free hq, h0, o⟩
  | N _ kvs => obtain ⟨q', e', hq, h0, o⟩ := r; exact ⟨q', e', s.free hq, h0, o⟩
  | K _ _ _ => obtain ⟨q', e', hq, h0, o⟩ := r; exact ⟨q', e', s.free hq, h0, o⟩
theorem IsVs.from' {H H1 H0' H' : Hp} (s : Same H H1) : ∀ {vs : List V} {ls : List LV}, IsVs F H1 H0' H' vs ls → IsVs F H H0' H' vs ls
  | [], _, h => h
  | _ :: _, _, h => by
    obtain ⟨l, r, rfl, h1, h2, h3⟩ := h
    exact ⟨l, r, rfl, IsV.from' (H0 := H) s h1, IsVs.from' s h2, h3⟩
theorem IsVs.get {H H0' H' : Hp} : ∀ {vs : List V} {ls : List LV} {k : Nat} {v : V} {l : LV}, IsVs F H H0' H' vs ls → vs[k]? = some v → ls[k]? = some l → IsV F H H0' H' v l
  | [], _, _, _, _, _, h, _ => by simp at h
  | _ :: _, _, 0, _, _, h, h1, h2 => by
    obtain ⟨l, r, rfl, a, _, _⟩ := h
    simp at h1 h2
    subst h1 h2
    exact a
  | _ :: _, _, k + 1, _, _, h, h1, h2 => by
    obtain ⟨l, r, rfl, _, a, _⟩ := h
    exact IsVs.get a (by simpa using h1) (by simpa using h2)
theorem IsVs.later {H H1 H0 H0' H2 : Hp} (g : Gr H0 H1 H0' H2) : ∀ {vs : List V} {ls : List LV}, IsVs F H H0 H1 vs ls → IsVs F H H0' H2 vs ls
  | [], _, h => h
  | _ :: _, _, h => by
    obtain ⟨l, r, rfl, h1, h2, h3⟩ := h
    exact ⟨l, r, rfl, h1.later g, IsVs.later g h2, h3⟩
def tVs (F : Fm) (δ : List LV) (ls : List LV) : TA := fun σ H Q => ∃ H0, SRep F H0 σ H δ ∧ ∀ vs H' H0', Gr H0 H H0' H' → IsVs F H H0' H' vs ls → Q vs H'
abbrev XVs (X : Cx) (F : Fm) (es : List Expr) (δ : List LV) (ls : List LV) : Prop := PA X es (tVs F δ ls)
theorem vs_nil : XVs X F [] δ [] := PA.imp pa_nil fun σ H Q ⟨H0, S, k⟩ => k [] H H0 (Gr.refl S.ex) rfl
theorem vs_cons {l : LV} {ls : List LV} (h : XV X F e δ l) (hr : XVs X F es δ ls) (hs : starEach (e :: es) X.env = (false, eval e X.env) :: starEach es X.env := by rfl) : XVs X F (e :: es) δ (l :: ls) :=
  PA.imp (pa_cons h hr hs) fun σ H Q ⟨H0, S, k⟩ => ⟨H0, S, fun v H1 H01 g1 r1 => ⟨H01, S.gr g1, fun vs H2 H02 g2 r2 => k (v :: vs) H2 H02 (g1.trans g2) ⟨l, ls, rfl, r1.later g2, r2.from' g1.s, fun q e io j m hm om z => by
    have r := (IsVs.get r2 z hm).own rfl om
    obtain ⟨o, ho⟩ := (r1.own e io).2
    rw [ho] at r; cases r.1⟩⟩⟩
def setLs : List Nat → List LV → List LV → List LV
  | i :: is, x :: xs, δ => setLs is xs (δ.set i x)
  | _, _, δ => δ
theorem gets_all {H0' H' H : Hp} (SB : Same F.B H) : ∀ {is : List Nat} {vs : List V} {ls : List LV} {σ : L2.St} {δ : List LV}, SRep F H0' σ H' δ → IsVs F H H0' H' vs ls → is.length = ls.length →
    (∀ (j : Nat) (m : LV) (q : Addr), δ[j]? = some m → isOwn m = true → σ[j]? = some (some (.ref q)) → ∀ (k : Nat) (l : LV), ls[k]? = some l → isOwn l = true → vs[k]? ≠ some (.ref q)) → SRep F H0' (setS is vs σ) H' (setLs is ls δ)
  | [], vs, ls, σ, δ, S, h, hl, _ => by
    cases ls with
    | nil => exact S
    | cons _ _ => simp at hl
  | i :: is, [], ls, σ, δ, S, h, hl, _ => by
    cases (show ls = [] from h)
    simp at hl
  | i :: is, v :: vs, ls, σ, δ, S, h, hl, hne => by
    obtain ⟨l, r, rfl, h1, h2, h3⟩ := h
    have S1 := S.gets (H0 := H) SB h1 i fun q e io j m hm om ej => absurd (by rw [e]; rfl) (hne j m q hm om ej 0 l rfl io)
    show SRep F H0' (setS is vs (σ.set i (some v))) H' (setLs is r (δ.set i l))
    refine gets_all SB S1 h2 (by simpa using hl) fun j m q hm om ej k l' hl' ol' => ?_
    by_cases z : i = j
    · subst z
      have hi : i < δ.length := by
        rcases Nat.lt_or_ge i δ.length with y | y
        · exact y
        · rw [List.getElem?_eq_none (by rw [List.length_set]; exact y)] at hm; cases hm
      rw [List.getElem?_set_self hi] at hm
      cases hm
      rw [List.getElem?_set_self (by rw [← S.len]; exact hi)] at ej
      exact h3 q (Option.some.inj (Option.some.inj ej)) om k l' hl' ol'
    · rw [List.getElem?_set_ne z] at hm ej
      have := hne j m q hm om ej (k + 1) l' (by simpa using hl') ol'
      simpa using this
theorem old_ne {H0 : Hp} (S : SRep F H0 σ H δ) {H0' H' : Hp} {vs : List V} {ls : List LV} (h : IsVs F H H0' H' vs ls) : ∀ (j : Nat) (m : LV) (q : Addr), δ[j]? = some m → isOwn m = true → σ[j]? = some (some (.ref q)) → ∀ (k : Nat) (l : LV), ls[k]? = some l → isOwn l = true → vs[k]? ≠ some (.ref q) :=
  fun j m q hm om ej k l hl ol z => by
    obtain ⟨a, ea, _, _, oa⟩ := S.own j m hm om
    rw [ej] at ea
    cases ea
    obtain ⟨ob, hob⟩ := oa.some
    have := ((IsVs.get h z hl).own rfl ol).1
    rw [hob] at this; cases this
theorem IsVs.length {H H0' H' : Hp} : ∀ {vs : List V} {ls : List LV}, IsVs F H H0' H' vs ls → vs.length = ls.length
  | [], ls, h => by cases (show ls = [] from h); rfl
  | _ :: _, ls, h => by
    obtain ⟨l, r, rfl, _, h2, _⟩ := h
    simp [IsVs.length h2]
/-- a, b = e1, e2 of two local names -/
theorem hs_par2 (i j : Nat) {l m : LV} {n1 n2 : Str} {px py pt pt2 : Pos} {kt k2 : Nat} (hN : X.N.Nodup) (hv : XVs X F [a, b] δ [l, m]) (h : Φ.nx ((δ.set i l).set j m)) (hij : i ≠ j := by decide)
    (hi : X.N[i]? = some n1 := by rfl) (hj : X.N[j]? = some n2 := by rfl) (hx : X.env.scope.names.lookup n1 = some .local := by rfl) (hy : X.env.scope.names.lookup n2 = some .local := by rfl)
    (hw : swappedStores [.Tuple [.Name n1 px, .Name n2 py] kt pt] (.Tuple [a, b] k2 pt2) X.env = pure (some [n1, n2]) := by rfl)
    (hs : swapsWithSole [.Tuple [.Name n1 px, .Name n2 py] kt pt] (.Tuple [a, b] k2 pt2) pos.line X.env = pure false := by rfl) (hc : X.calm = true := by rfl) :
    HS X F (.Assign [.Tuple [.Name n1 px, .Name n2 py] kt pt] (.Tuple [a, b] k2 pt2) pos) δ Φ :=
  PS.imp (ps_par hc hN hi hj hij hx hy hv hw hs) fun E σ H ⟨H0, S, k⟩ => ⟨H0, S, fun vs H' H0' g r => by
    have l2 := r.length
    match vs, l2, r with
    | [v, w], _, r => exact ⟨v, w, rfl, k.nx _ H' H0' _ g.s0 (gets_all (is := [i, j]) S.bb (S.gr g) r rfl (old_ne S r)) h⟩⟩
/-- .. of three -/
theorem hs_par3 (i j u : Nat) {l m q : LV} {n1 n2 n3 : Str} {px py pz pt pt2 : Pos} {kt k2 : Nat} (hN : X.N.Nodup) (hv : XVs X F [a, b, c] δ [l, m, q]) (h : Φ.nx (((δ.set i l).set j m).set u q)) (hij : i ≠ j := by decide) (hiu : i ≠ u := by decide) (hju : j ≠ u := by decide)
    (hi : X.N[i]? = some n1 := by rfl) (hj : X.N[j]? = some n2 := by rfl) (hk : X.N[u]? = some n3 := by rfl) (hx : X.env.scope.names.lookup n1 = some .local := by rfl) (hy : X.env.scope.names.lookup n2 = some .local := by rfl) (hz : X.env.scope.names.lookup n3 = some .local := by rfl)
    (hw : swappedStores [.Tuple [.Name n1 px, .Name n2 py, .Name n3 pz] kt pt] (.Tuple [a, b, c] k2 pt2) X.env = pure (some [n1, n2, n3]) := by rfl)
    (hs : swapsWithSole [.Tuple [.Name n1 px, .Name n2 py, .Name n3 pz] kt pt] (.Tuple [a, b, c] k2 pt2) pos.line X.env = pure false := by rfl) (hc : X.calm = true := by rfl) :
    HS X F (.Assign [.Tuple [.Name n1 px, .Name n2 py, .Name n3 pz] kt pt] (.Tuple [a, b, c] k2 pt2) pos) δ Φ :=
  PS.imp (ps_par3 hc hN hi hj hk hij hiu hju hx hy hz hv hw hs) fun E σ H ⟨H0, S, k⟩ => ⟨H0, S, fun vs H' H0' g r => by
    have l2 := r.length
    match vs, l2, r with
    | [v, w, t], _, r => exact ⟨v, w, t, rfl, k.nx _ H' H0' _ g.s0 (gets_all (is := [i, j, u]) S.bb (S.gr g) r rfl (old_ne S r)) h⟩⟩
/-- .. by way of a tuple (a name of the two is a cell) -/
theorem hs_parT (i j : Nat) {l m : LV} {n1 n2 : Str} {px py pt pt2 : Pos} {kt k2 : Nat} (hN : X.N.Nodup) (hv : XVs X F [a, b] δ [l, m]) (h : Φ.nx ((δ.set i l).set j m))
    (hi : X.N[i]? = some n1 := by rfl) (hj : X.N[j]? = some n2 := by rfl) (hx : Loc X.env.scope n1 := by first | exact Or.inl rfl | exact Or.inr rfl) (hy : Loc X.env.scope n2 := by first | exact Or.inl rfl | exact Or.inr rfl)
    (hf1 : X.fn n1 = true ∨ X.env.scope.names.lookup n1 = some .local := by first | exact .inl rfl | exact .inr rfl) (hf2 : X.fn n2 = true ∨ X.env.scope.names.lookup n2 = some .local := by first | exact .inl rfl | exact .inr rfl)
    (hs : swapsWithSole [.Tuple [.Name n1 px, .Name n2 py] kt pt] (.Tuple [a, b] k2 pt2) pos.line X.env = pure false := by rfl) (hw : swappedStores [.Tuple [.Name n1 px, .Name n2 py] kt pt] (.Tuple [a, b] k2 pt2) X.env = pure none := by rfl)
    (h1 : (assignEach [.Tuple [.Name n1 px, .Name n2 py] kt pt] X.env).map (·.2) = [assign (.Tuple [.Name n1 px, .Name n2 py] kt pt) X.env] := by rfl) (hc : X.calm = true := by rfl) :
    HS X F (.Assign [.Tuple [.Name n1 px, .Name n2 py] kt pt] (.Tuple [a, b] k2 pt2) pos) δ Φ :=
  PS.imp (ps_asg (pe_tup hv) (pg_tup hc (pgs_cons (pg_name hN hi hx hf1) (pgs_cons (pg_name hN hj hy hf2) pgs_nil))) hs hw h1) fun E σ H ⟨H0, S, k⟩ => ⟨H0, S, fun vs H' H0' g r => by
    have l2 := r.length
    match vs, l2, r with
    | [v, w], _, r =>
      refine ⟨by show 2 ≤ sizeLine; decide, fun p hp => ?_⟩
      have gl := Gr.laid (o := .tup [v, w]) g.ex hp
      refine ⟨p, [v, w], rfl, SqT.of upd_same, rfl, v, [w], rfl, w, [], rfl, rfl, ?_⟩
      exact k.nx _ _ H0' _ g.s0 (gets_all (is := [i, j]) S.bb ((S.gr g).gr gl) (r.later gl) rfl (old_ne S r)) h⟩

/-! ### starred displays -/
theorem a_star (h : XE X F e δ (.tup xs) ∨ XE X F e δ (.lst xs)) (hr : XA X F es δ ys) (hs : starEach (.Starred e p :: es) X.env = (true, eval e X.env) :: starEach es X.env := by rfl) : XA X F (.Starred e p :: es) δ (xs ++ ys) := by
  rcases h with h | h
  · exact PA.imp (StX.pa_star h hr hs) fun σ H Q ⟨H0, S, k⟩ => ⟨H0, S, fun v H1 H01 g1 r1 => by
      obtain ⟨q, vs, rfl, e1, rs⟩ := rep_tup.mp r1
      exact ⟨q, vs, rfl, .inl (SqT.of (g1.ex _ _ e1)), H01, S.gr g1, fun us H2 H02 g2 r2 => k _ H2 H02 (g1.trans g2) ((Reps.mono g2.s0 _ _ rs).append r2)⟩⟩
  · exact PA.imp (StX.pa_star h hr hs) fun σ H Q ⟨H0, S, k⟩ => ⟨H0, S, fun v H1 H01 g1 r1 => by
      obtain ⟨q, vs, rfl, e1, rs⟩ := rep_lst.mp r1
      exact ⟨q, vs, rfl, .inr (SqL.of (g1.ex _ _ e1)), H01, S.gr g1, fun us H2 H02 g2 r2 => k _ H2 H02 (g1.trans g2) ((Reps.mono g2.s0 _ _ rs).append r2)⟩⟩

/-! ### dict views -/
variable {ks : List Key}
theorem l_vals {apos cpos : Pos} (hm : X.mg "list" = none) (he : XR X F e δ (.dk ks xs)) (hc : X.calm = true := by rfl) (hg : Gl X "list" := by rfl) (hbase : attributeBase e "values" X.env (eval e X.env) = eval e X.env := by rfl) (hline : (apos.endLine == cpos.line) = true := by rfl)
    (hs : starEach [.Call (.Attribute e "values" apos) [] [] cpos] X.env = (false, eval (.Call (.Attribute e "values" apos) [] [] cpos) X.env) :: starEach [] X.env := by rfl) : XL X F (.Call (.Name "list" p) [.Call (.Attribute e "values" apos) [] [] cpos] [] pos) δ xs :=
  PE.imp (Zn.pe_listVals hc he hg hm hbase hline hs) fun σ H Q ⟨H0, S, k⟩ => ⟨H0, S, fun v H' H0' g r => by
    obtain ⟨q, vs, rfl, e1, hl, rs⟩ := r
    refine ⟨q, _, rfl, e1, fun l hl' => k l _ _ H0' (g.trans (Gr.laid g.ex hl')) (g.s.free hl') (g.ex.free hl') upd_same ?_⟩
    have l2 := rs.length
    rw [show (ks.zip vs).map (·.2) = vs from List.map_snd_zip (by omega)]
    exact rs⟩
/-- many new objects become data at once -/
theorem Gr.many {H0 H H' : Hp} (ex : Same H0 H) (s : Same H H') (L : List Addr) (hL : ∀ a ∈ L, H a = none) : ∃ H0', Gr H0 H H0' H' ∧ ∀ a ∈ L, H0' a = H' a := by
  refine ⟨fun b => if b ∈ L then H' b else H0 b, ⟨s, fun b o e => ?_, fun b o e => ?_, fun b o e => ?_⟩, fun a ha => if_pos ha⟩
  · show (if b ∈ L then H' b else H0 b) = some o
    by_cases z : b ∈ L
    · have := hL b z
      rw [ex _ _ e] at this; cases this
    · rw [if_neg z]; exact e
  · have e : (if b ∈ L then H' b else H0 b) = some o := e
    by_cases z : b ∈ L
    · rw [if_pos z] at e; exact e
    · rw [if_neg z] at e; exact s _ _ (ex _ _ e)
  · have e : (if b ∈ L then H' b else H0 b) = some o := e
    by_cases z : b ∈ L
    · exact .inr (hL b z)
    · rw [if_neg z] at e; exact .inl e
theorem reps_pairs {T : Addr} {H0 H' : Hp} : ∀ {ts : List Addr} {qs : List (Int × Int)}, (∀ t ∈ ts, H0 t = H' t) → Paired (fun (t : Addr) (q : Int × Int) => H' t = some (.tup [.int q.1, .int q.2])) ts qs → Reps T H0 (qs.map fun q => .tup [.int q.1, .int q.2]) (ts.map V.ref)
  | [], [], _, _ => reps_nil
  | [], _ :: _, _, h => by cases h
  | _ :: _, [], _, h => by cases h
  | t :: ts, q :: qs, hL, .cons h tl => by
    refine reps_cons (rep_tup.mpr ⟨t, _, rfl, (hL t List.mem_cons_self).trans h, reps_cons (rep_int.mpr rfl) (reps_cons (rep_int.mpr rfl) reps_nil)⟩) (reps_pairs (fun u hu => hL u (List.mem_cons_of_mem _ hu)) tl)
theorem x_sortItems {apos cpos : Pos} {ns ms : List Int} (hm : X.mg "sorted" = none) (he : XR X F e δ (.dk (ns.map .inl) (ms.map .int))) (hs1 : ns.Pairwise (· < ·)) (hc : X.calm = true := by rfl) (hg : Gl X "sorted" := by rfl) (hbase : attributeBase e "items" X.env (eval e X.env) = eval e X.env := by rfl) (hline : (apos.endLine == cpos.line) = true := by rfl)
    (hs : starEach [.Call (.Attribute e "items" apos) [] [] cpos] X.env = (false, eval (.Call (.Attribute e "items" apos) [] [] cpos) X.env) :: starEach [] X.env := by rfl) : XE X F (.Call (.Name "sorted" p) [.Call (.Attribute e "items" apos) [] [] cpos] [] pos) δ (.lst ((ns.zip ms).map fun q => .tup [.int q.1, .int q.2])) :=
  PE.imp (Zn.pe_sortItems hc he hg hm hbase hline hs) fun σ H Q ⟨H0, S, k⟩ => ⟨H0, S, fun v H' H0' g r => by
    obtain ⟨q, vs, rfl, e1, hl, rs⟩ := r
    rw [Reps.ints rs] at e1
    refine ⟨q, ns, ms, rfl, e1, by simpa using hl, hs1, fun H2 p ts ex hp ht hpt hl2 hpd => ?_⟩
    obtain ⟨H02, g2, hL⟩ := Gr.many g.ex (show Same H' H2 from fun b o e => ex b o e) (p :: ts) (fun a ha => by
      rcases List.mem_cons.mp ha with z | z
      · rw [z]; exact hp
      · exact ht a z)
    exact k _ H2 H02 (g.trans g2) (rep_lst.mpr ⟨p, _, rfl, (hL p List.mem_cons_self).trans hl2, reps_pairs (fun t h => hL t (List.mem_cons_of_mem _ h)) hpd⟩)⟩
theorem mergeK_app : ∀ {more kvs : List (Key × V)}, ((kvs ++ more).map (·.1)).Nodup → mergeK kvs more = kvs ++ more
  | [], kvs, _ => by rw [List.append_nil]; rfl
  | q :: more, kvs, h => by
    have h2 : ((kvs ++ [q]) ++ more).map (·.1) = (kvs ++ q :: more).map (·.1) := by simp
    have no : valV kvs q.1 = none := by
      cases z : valV kvs q.1 with
      | none => rfl
      | some v =>
        exfalso
        have : (kvs.any fun kv => decide (kv.1 = q.1)) = true := by rw [valV_any, z]; rfl
        obtain ⟨kv, hm, e⟩ := List.any_eq_true.mp this
        have e : kv.1 = q.1 := by simpa using e
        rw [List.map_append, List.map_cons, List.nodup_append] at h
        exact h.2.2 _ (List.mem_map.mpr ⟨kv, hm, e⟩) _ List.mem_cons_self rfl
    show mergeK (putK kvs q.1 q.2) more = _
    rw [putK_new q.2 no, mergeK_app (by rw [h2]; exact h)]
    simp
theorem m_dictZip {s : Str} {q kp cp : Pos} {ix : Nat} (hm : X.mg "dict" = none) (hm2 : X.mg "zip" = none) (ha : XE X F a δ (.str s)) (hb : XE X F b δ (.tup ys)) (hl : s.cps.size = ys.length) (nd : s.cps.toList.Nodup) (hc : X.calm = true := by rfl) (hg : Gl X "dict" := by rfl) (hg2 : Gl X "zip" := by rfl)
    (h1 : starEach [a, b] X.env = (false, eval a X.env) :: starEach [b] X.env := by rfl) (h2 : starEach [b] X.env = (false, eval b X.env) :: starEach [] X.env := by rfl) (hpl : (backTo q (starEach [b] X.env)).any (·.1) = false := by rfl)
    (hs2 : starEach [.Call (.Name "zip" p2) [a, b] [⟨some "strict", .Constant (.bool true) ix cp, kp⟩] q] X.env = (false, eval (.Call (.Name "zip" p2) [a, b] [⟨some "strict", .Constant (.bool true) ix cp, kp⟩] q) X.env) :: starEach [] X.env := by rfl) :
    XM X F (.Call (.Name "dict" p) [.Call (.Name "zip" p2) [a, b] [⟨some "strict", .Constant (.bool true) ix cp, kp⟩] q] [] pos) δ (s.cps.toList.map Zn.skey) ys :=
  PE.imp (Zn.pe_dictZip hc (a_cons ha (a_cons hb a_nil h2) h1) hg hm hg2 hm2 h1 hpl hs2) fun σ H Q ⟨H0, S, k⟩ => ⟨H0, S, fun vs H' H0' g r => by
    obtain ⟨v, w, rfl, r1, r2⟩ := r.two
    cases (rep_str.mp r1)
    obtain ⟨q2, ws, rfl, e2, rs2⟩ := rep_tup.mp r2
    have l2 := rs2.length
    refine ⟨s, q2, ws, rfl, SqT.of (g.ex _ _ e2), by omega, fun l hl' => ?_⟩
    have hk : (s.cps.toList.map Zn.skey).length = ws.length := by rw [List.length_map, Array.length_toList]; omega
    have nk : (s.cps.toList.map Zn.skey).Nodup := List.Pairwise.map _ (fun a b hab h => hab (by
      unfold Zn.skey at h
      have := Sum.inr.inj h
      injection this with this
      simpa using this)) nd
    rw [mergeK_app (by rw [List.nil_append, List.map_fst_zip (by omega)]; exact nk), List.nil_append]
    exact k l ws _ H0' (g.trans (Gr.laid g.ex hl')) (g.s.free hl') (g.ex.free hl') upd_same (by omega) rs2⟩
end
end Dl
end
section
set_option Elab.async false
set_option linter.all false
set_option maxRecDepth 100000
set_option maxHeartbeats 2000000
/-! Comprehensions of two walks, of dicts; join; tuple * n; len of an instance. -/
namespace Dl
open PySem PySem.Spec PyProof.Rows L2

section
variable {X : Cx} {F : Fm} {δ : List LV} {a b c e o tg tg1 : Expr} {es : List Expr} {x y z : D} {pos p p2 : Pos} {σ : L2.St} {H : Hp} {Φ : DE}
def tAnyI (X : Cx) (F : Fm) (tg iter : Expr) (scope : Scope) : TI := fun σ H R => ∃ δ ys, (∀ (s : Shared) (H : Hp) (C : Addr) (cl : List (Str × Addr)) (fp : List Addr), PI (X.blk s H scope (compEnvC scope cl C X.env) fp) tg iter (tI F δ ys)) ∧ tI F δ ys σ H R
theorem lc_item {T : Addr} {J : It} {H0 H01 H1 : Hp} {Dl : Addr} {vs : List V} {xs : List D} {i : Nat} {x : D} {v : V} {H3 : Hp} (Y : Yld T J H0 xs) (s : Same H0 H01) (ex : Same H01 H1) (hl : i < xs.length) (hx : xs[i]? = some x) (hy : J.yld i H1 v H3) (hD0 : H01 Dl = none) (hD : H1 Dl = some (.lst vs)) :
    ∃ H03, Gr H01 H1 H03 H3 ∧ Rep T H03 x v ∧ H03 Dl = none ∧ H3 Dl = some (.lst vs) := by
  rcases ((Y i H1 (s.trans ex)).1 hl).2 v H3 hy x hx with ⟨rfl, r⟩ | ⟨p, us, ds, ex', rfl, hp, rfl, r⟩
  · exact ⟨H01, Gr.refl ex, Rep.mono s _ _ r, hD0, hD⟩
  · have np : Dl ≠ p := fun z => by subst z; rw [hD] at hp; cases hp
    refine ⟨upd H01 p (.tup us), Gr.new ex hp, ?_, by rw [upd_ne np]; exact hD0, by rw [upd_ne np]; exact hD⟩
    rw [ex']
    exact rep_tup.mpr ⟨p, us, rfl, upd_same, Reps.mono (s.trans (same_new (ex.free hp))) _ _ r⟩
theorem keep_free {H01 H1 H02 H2 : Hp} {Dl : Addr} {o : HO} (g : Gr H01 H1 H02 H2) (h0 : H01 Dl = none) (h : H1 Dl = some o) : H02 Dl = none := by
  cases q : H02 Dl with
  | none => rfl
  | some u =>
    rcases g.nw _ _ q with z | z
    · rw [h0] at z; cases z
    · rw [h] at z; cases z
theorem setAll_own {i : Nat} {l : LV} (io : isOwn l = true) : ∀ {is : List Nat} {xs : List D} {δ : List LV}, (setAll is xs δ)[i]? = some l → δ[i]? = some l ∧ (xs.length = is.length → i ∉ is)
  | [], _, _, h => ⟨h, fun _ => by simp⟩
  | _ :: _, [], _, h => ⟨h, fun z => by simp at z⟩
  | j :: is, x :: xs, δ, h => by
    obtain ⟨h1, h2⟩ := setAll_own io (show (setAll is xs (δ.set j (.d x)))[i]? = some l from h)
    by_cases z : j = i
    · subst z
      have hj : j < δ.length := by
        rcases Nat.lt_or_ge j δ.length with y | y
        · exact y
        · rw [List.getElem?_eq_none (by rw [List.length_set]; exact y)] at h1; cases h1
      rw [List.getElem?_set_self hj] at h1
      cases h1
      cases io
    · rw [List.getElem?_set_ne z] at h1
      refine ⟨h1, fun hl hm => ?_⟩
      rcases List.mem_cons.mp hm with e | e
      · exact z e.symm
      · exact h2 (by simpa using hl) e
theorem asg_own {t : Tgt} {x : D} {δ δ' : List LV} {i : Nat} {l : LV} (h : t.asg x δ = some δ') (hi : δ'[i]? = some l) (io : isOwn l = true) : δ[i]? = some l ∧ i ∉ t.slots := by
  cases t with
  | one j =>
    cases h
    by_cases z : j = i
    · subst z
      have hj : j < δ.length := by
        rcases Nat.lt_or_ge j δ.length with y | y
        · exact y
        · rw [List.getElem?_eq_none (by rw [List.length_set]; exact y)] at hi; cases hi
      rw [List.getElem?_set_self hj] at hi
      cases hi
      cases io
    · rw [List.getElem?_set_ne z] at hi
      exact ⟨hi, fun hm => z (List.mem_singleton.mp hm).symm⟩
  | tup is =>
    cases x with
    | tup xs =>
      have h : (if xs.length = is.length then some (setAll is xs δ) else none) = some δ' := h
      by_cases hl : xs.length = is.length
      · rw [if_pos hl] at h
        cases h
        obtain ⟨h1, h2⟩ := setAll_own io hi
        exact ⟨h1, h2 hl⟩
      · rw [if_neg hl] at h; cases h
    | _ => cases h
/-- the data slots of one state, the owned ones of another -/
theorem SRep.mix {H07 H7 H03 H3 : Hp} {σ7 σ4 : L2.St} {δ' : List LV} (S7 : SRep F H07 σ7 H7 δ) (S4 : SRep F H03 σ4 H3 δ') (s : Same H03 H07) (h : ∀ (i : Nat) (l : LV), δ'[i]? = some l → isOwn l = true → δ[i]? = some l ∧ σ4[i]? = σ7[i]?) : SRep F H07 σ4 H7 δ' where
  zb := S7.zb
  ex := S7.ex
  bb := S7.bb
  fr := S7.fr
  len := S4.len
  dat := fun i x e => by
    obtain ⟨v, e1, r⟩ := S4.dat i x e
    exact ⟨v, e1, Rep.mono s _ _ r⟩
  own := fun i l e io => by
    obtain ⟨h1, h2⟩ := h i l e io
    rw [h2]
    exact S7.own i l h1 io
  sep := fun i j l m a e1 o1 e2 o2 e3 e4 => by
    obtain ⟨h1, h2⟩ := h i l e1 o1
    obtain ⟨h3, h4⟩ := h j m e2 o2
    rw [h2] at e3
    rw [h4] at e4
    exact S7.sep i j l m a h1 o1 h3 o2 e3 e4
section
variable {α β : Type} {xs : List α} {ys : List β} {enc : α → D} {enc1 : β → D} {g : α → β → D} {t t1 : Tgt} {iter iter1 elt : Expr} {scope : Scope} {own : List (Str × Nat)}
theorem l_lc2 (own : List (Str × Nat)) (t t1 : Tgt) (xs : List α) (enc : α → D) (ys : List β) (enc1 : β → D) (g : α → β → D) (hN : X.N.Nodup) (hi : XI X F tg iter δ (xs.map enc)) (ok : BlkOk X.N X.env.scope scope own)
    (hg : ∀ (s : Shared) (H : Hp) (C : Addr) (cl : List (Str × Addr)) (fp : List Addr), XG (X.blk s H scope (compEnvC scope cl C X.env) fp) F tg t)
    (hg1 : ∀ (s : Shared) (H : Hp) (C : Addr) (cl : List (Str × Addr)) (fp : List Addr), XG (X.blk s H scope (compEnvC scope cl C X.env) fp) F tg1 t1)
    (hx : ∀ x ∈ xs, ∃ δ', t.asg (enc x) δ = some δ' ∧ unAll δ' t1.slots = true ∧ (∀ (s : Shared) (H : Hp) (C : Addr) (cl : List (Str × Addr)) (fp : List Addr), XI (X.blk s H scope (compEnvC scope cl C X.env) fp) F tg1 iter1 δ' (ys.map enc1)) ∧
      ∀ y ∈ ys, ∃ δ'', t1.asg (enc1 y) δ' = some δ'' ∧ ∀ (s : Shared) (H : Hp) (C : Addr) (cl : List (Str × Addr)) (fp : List Addr), XE (X.blk s H scope (compEnvC scope cl C X.env) fp) F elt δ'' (g x y))
    (hz : xs.length * ys.length ≤ 1000000) (hu : unAll δ (own.map (·.2)) = true := by rfl) (hsl : ∀ i ∈ t.slots, i ∈ own.map (·.2) := by decide) (hsl1 : ∀ i ∈ t1.slots, i ∈ own.map (·.2) := by decide) (hc : X.calm = true := by rfl) (hs : ∀ x, foldedSetIterable iter X.env x = pure x := by intro _; rfl) (hs1 : ∀ env x, foldedSetIterable iter1 env x = pure x := by intro _ _; rfl) :
    XL X F (.ListComp elt [⟨tg, iter, [], 0⟩, ⟨tg1, iter1, [], 0⟩] scope pos) δ (xs.flatMap fun x => ys.map (g x)) := by
  refine PE.imp (pe_lc2 (own := own) (vs1 := t1.slots) hc hN hi ok hsl1 (any_g (F := F)) (any_t (F := F)) (wi1 := tAnyI X F tg1 iter1 scope) (fun s H C cl fp => ⟨fun pins s1 σ H1 R I ⟨δ, ys, h, q⟩ => (h s H C cl fp).run pins s1 σ H1 R I q⟩) (any_g (F := F)) (any_t (F := F)) (any_e (F := F)) hs hs1) ?_
  rintro σ H Q ⟨H0, S, k⟩
  refine ⟨H0, S, fun J H1 H01 g1 Y Dl hD => ?_⟩
  have S1w := (S.gr g1).wiped hu
  have lenI : ∀ i, (((xs.take i).flatMap fun x => ys.map (g x))).length = min i xs.length * ys.length := fun i => by
    rw [List.length_flatMap]
    simp only [List.length_map]
    rw [List.map_const', List.sum_replicate_nat, List.length_take]
  refine ⟨fun i m H2 => m = xs.length - i ∧ i ≤ xs.length ∧ LcInv F δ (wipe σ (own.map (·.2))) H1 H01 Dl ((xs.take i).flatMap fun x => ys.map (g x)) H2, ⟨xs.length, by simp, Nat.zero_le _, ⟨H01, [], Gr.laid g1.ex hD, g1.ex.free hD, upd_same, reps_nil⟩⟩, ?_⟩
  rintro i m H2 ⟨rfl, hi', ⟨H02, vs, g2, hD0, hDl, rs⟩⟩
  have S2 := S1w.gr g2
  obtain ⟨y1, y2⟩ := Y i H2 (g2.s0.trans g2.ex)
  rw [List.length_map] at y1 y2
  by_cases hlt : i < xs.length
  · obtain ⟨go, yl⟩ := y1 hlt
    refine .inr ⟨go, fun H3 => LcInv F δ (wipe σ (own.map (·.2))) H1 H01 Dl ((xs.take (i + 1)).flatMap fun x => ys.map (g x)) H3, fun H3 n => ⟨xs.length - (i + 1), by omega, rfl, hlt, n⟩, fun v H3 hy => ?_⟩
    have hxi : xs[i]? = some xs[i] := List.getElem?_eq_getElem hlt
    obtain ⟨δ', ha, hu1, hI, hel⟩ := hx xs[i] (List.getElem_mem hlt)
    obtain ⟨H03, g3, r3, hD3, hDl3⟩ := lc_item Y g2.s0 g2.ex (by rw [List.length_map]; exact hlt) (by rw [List.getElem?_map, hxi]; rfl) hy hD0 hDl
    have tk : xs.take (i + 1) = xs.take i ++ [xs[i]] := by rw [List.take_add_one, hxi]; rfl
    have lv : vs.length = i * ys.length := by
      have := rs.length
      rw [lenI, Nat.min_eq_left hi'] at this
      exact this
    refine ⟨t.slots, δ, enc xs[i], δ', fun s H C cl fp => hg s H C cl fp δ _ δ' ha, H03, S2.gr g3, r3, fun us S4 => ⟨wipe_setS hsl, δ', true, fun _ _ _ _ _ => ts_nil, H03, S4, fun H5 H05 g5 => ?_⟩⟩
    have hD5 : H5 Dl = some (.lst vs) := g5.s _ _ hDl3
    have hD05 := keep_free g5 hD3 hDl3
    show tAnyI X F tg1 iter1 scope _ H5 _
    refine ⟨δ', ys.map enc1, hI, H05, S4.gr g5, fun J1 H6 H06 g6 Y1 => ?_⟩
    have hD6 : H6 Dl = some (.lst vs) := g6.s _ _ hD5
    have hD06 := keep_free g6 hD05 hD5
    have g36 := (g3.trans g5).trans g6
    have gA6 := g2.trans g36
    refine ⟨fun j k H7 => k = ys.length - j ∧ j ≤ ys.length ∧ ∃ H07 ws, Gr H01 H1 H07 H7 ∧ Same H06 H07 ∧ H07 Dl = none ∧ H7 Dl = some (.lst ws) ∧ Reps F.T H07 (((xs.take i).flatMap fun x => ys.map (g x)) ++ (ys.take j).map (g xs[i])) ws, ⟨ys.length, by simp, Nat.zero_le _, H06, vs, gA6, Same.refl _, hD06, hD6, by simpa using Reps.mono g36.s0 _ _ rs⟩, ?_⟩
    rintro j k' H7 ⟨rfl, hj', H07, ws, g7, s67, hD07, hDl7, rw7⟩
    have S7 : SRep F H07 (setS t.slots us (wipe σ (own.map (·.2)))) H7 δ' := SRep.mix (S1w.gr g7) S4 (((g5.s0.trans g6.s0)).trans s67) fun i' l e io => by
      obtain ⟨h1, h2⟩ := asg_own ha e io
      exact ⟨h1, setS_out h2⟩
    have S7w := S7.wiped hu1
    obtain ⟨z1, z2⟩ := Y1 j H7 (s67.trans g7.ex)
    rw [List.length_map] at z1 z2
    by_cases hlt2 : j < ys.length
    · obtain ⟨go1, yl1⟩ := z1 hlt2
      refine .inr ⟨go1, fun H8 => ∃ H08 ws, Gr H01 H1 H08 H8 ∧ Same H06 H08 ∧ H08 Dl = none ∧ H8 Dl = some (.lst ws) ∧ Reps F.T H08 (((xs.take i).flatMap fun x => ys.map (g x)) ++ (ys.take (j + 1)).map (g xs[i])) ws, fun H8 n => ⟨ys.length - (j + 1), by omega, rfl, hlt2, n⟩, fun v1 H8 hy1 => ?_⟩
      have hyj : ys[j]? = some ys[j] := List.getElem?_eq_getElem hlt2
      obtain ⟨δ'', ha1, he1⟩ := hel ys[j] (List.getElem_mem hlt2)
      obtain ⟨H08, g8, r8, hD8, hDl8⟩ := lc_item Y1 s67 g7.ex (by rw [List.length_map]; exact hlt2) (by rw [List.getElem?_map, hyj]; rfl) hy1 hD07 hDl7
      refine ⟨t1.slots, δ', enc1 ys[j], δ'', fun s H C cl fp => hg1 s H C cl fp δ' _ δ'' ha1, H08, S7w.gr g8, r8, fun us1 S9 => ⟨wipe_setS fun _ h => h, δ'', true, fun _ _ _ _ _ => ts_nil, H08, S9, fun H9 H09 g9 => ?_⟩⟩
      have hD9 : H9 Dl = some (.lst ws) := g9.s _ _ hDl8
      have hD09 := keep_free g9 hD8 hDl8
      show tAnyE X F elt scope _ H9 _
      refine ⟨δ'', g xs[i] ys[j], he1, H09, S9.gr g9, fun yv HA H0A gA rA => ⟨ws, gA.s _ _ hD9, ?_, ?_⟩⟩
      · have l7 := rw7.length
        rw [List.length_append, lenI, Nat.min_eq_left hi', List.length_map, List.length_take] at l7
        have : (i + 1) * ys.length ≤ xs.length * ys.length := Nat.mul_le_mul_right _ hlt
        rw [Nat.add_mul] at this
        rw [sizeLine_eq]
        omega
      · have hD0A := keep_free gA hD09 hD9
        have tk2 : ys.take (j + 1) = ys.take j ++ [ys[j]] := by rw [List.take_add_one, hyj]; rfl
        refine ⟨H0A, ws ++ [yv], ((((g7.trans g8).trans g9).trans gA)).app hD hD0A, ((s67.trans g8.s0).trans g9.s0).trans gA.s0, hD0A, upd_same, ?_⟩
        rw [tk2, List.map_append, ← List.append_assoc]
        exact (Reps.mono ((g8.s0.trans g9.s0).trans gA.s0) _ _ rw7).append (reps_cons rA reps_nil)
    · have e : j = ys.length := by omega
      subst e
      refine .inl ⟨z2 rfl, ?_⟩
      rw [List.take_length] at rw7
      refine ⟨H07, ws, g7, hD07, hDl7, ?_⟩
      rw [tk, List.flatMap_append]
      simpa using rw7
  · have e : i = xs.length := by omega
    subst e
    refine .inl ⟨y2 rfl, ?_⟩
    rw [List.take_length] at rs
    exact k Dl vs H2 H02 (g1.trans g2) (g1.s.free hD) hD0 hDl rs
end
end
end Dl
end
section
set_option Elab.async false
set_option linter.all false
set_option maxRecDepth 100000
set_option maxHeartbeats 2000000
/-! tuple * n, join, len of an instance, dict comprehensions. -/
namespace Dl
open PySem PySem.Spec PyProof.Rows L2
open AutoSeq1 (wpAny_loadPart')
/-- a tuple taken once is the tuple itself -/
theorem tuple_once (l : Addr) (its : Array Value) (n : Nat) (dd : Option Addr) (sl : Array (Option Value)) (u : Tok) (ne : its.isEmpty = false) :
    Meets (Builtin.«tuple.__mul__» ⟨[.ref l, .int 1 u], []⟩) fun _ R s => s.heap.get? l = some { cls := .type "tuple", dict := dd, data := .seq its n, slots := sl } ∧ R (.ok (.ret (.ref l))) s := by
  refine .of_wp fun prog w A R s ⟨e, k⟩ => ?_
  have i1 := AutoSeq1.idx_int
  have small : (decide ((1 : Int) < -(2 ^ 63)) || decide ((1 : Int) ≥ 2 ^ 63)) = false := by decide
  have some1 : (its.isEmpty || decide ((1 : Int) ≤ 0)) = false := by rw [ne]; decide
  wp_walk using wpAny_loadPart' e
  exact ⟨_, rfl, k⟩
section
variable {X : Cx} {F : Fm} {δ : List LV} {a b c e o tg : Expr} {es : List Expr} {x y z : D} {pos p p2 : Pos} {σ : L2.St} {H : Hp} {xs ys : List D} {Φ : DE}
def rRep1 (K : PySem.W.Frag) : R2 := fun x y H Q => ∃ l xs, x = .ref l ∧ y = .int 1 ∧ SqT K H l xs ∧ xs ≠ [] ∧ xs.length ≤ 1000 ∧ Q (.ref l) H
theorem op_rep1 : OpR X (binaryOp .Mult) (rRep1 X.K) := by
  rintro pins s σ H _ _ v u Q I rx ry ⟨l, xs, rfl, rfl, hT, ne, _, k⟩
  cases rx
  obtain ⟨t, rfl⟩ := ry
  obtain ⟨its, r, ⟨ob, e, hc, n, hd⟩, _⟩ := I.tuple hT
  cases ob with | mk c dd da sl =>
  cases (show c = .type "tuple" from hc)
  cases (show da = .seq its.toArray n from hd)
  have full : its.toArray.isEmpty = false := by
    cases its with
    | nil =>
      cases r
      exact absurd rfl ne
    | cons _ _ => rfl
  have tl : s.TypeIs (.ref l) "tuple" := ⟨_, e, rfl⟩
  have ti : ∀ s' : Shared, s'.TypeIs (.int 1 t) "int" := fun s' => typeIs_int s' 1 t
  have once := call_meets F.slot_tuple_mul tl F.entry_tuple_mul (F.args_tuple_mul_2 _ _) (prog := X.prog) (w := X.w) (A := X.A) (E := X.xe) (Q := EP X pins σ Q) (tuple_once l its.toArray n dd sl t full) ⟨e, .ref l, H, I, rfl, k⟩
  exact wpAny_binaryOp_repeat_ref (T := "tuple") (U := "int") (by decide) tl ti noFill_tuple_mul F.fills_int_mul F.slot_int_rmul repeat_tuple F.slot_int_index.lookup
    (call_meets F.slot_int_rmul (ti s) F.entry_int_rmul (F.args_int_rmul_2 _ _) (int_rmul_tuple 1 t l its.toArray n dd sl) ⟨e, rfl, tl, once⟩)
theorem x_repT {n : Int} (ha : XE X F a δ (.tup xs)) (hb : XE X F b δ (.int n)) (hx : xs ≠ []) (h0 : 1 ≤ n) (h1 : n ≤ 1000) (hz : xs.length ≤ 1000) : XE X F (.BinOp a .Mult b pos) δ (.tup (List.replicate n.toNat xs).flatten) := by
  by_cases h : n = 1
  · subst h
    exact PE.imp (pe_op op_rep1 ha hb) fun σ H Q ⟨H0, S, k⟩ => ⟨H0, S, fun v H1 H01 g1 r1 => ⟨H01, S.gr g1, fun w H2 H02 g2 r2 => by
      have r1' := Rep.mono g2.s0 _ _ r1
      obtain ⟨q1, vs, rfl, e1, rs1⟩ := rep_tup.mp r1'
      have l1 := rs1.length
      refine ⟨q1, vs, rfl, rep_int.mp r2, SqT.of (g2.ex _ _ e1), fun ev => hx (List.eq_nil_of_length_eq_zero (by rw [← l1, ev]; rfl)), by omega, ?_⟩
      refine k _ H2 H02 (g1.trans g2) ?_
      have : (List.replicate (1 : Int).toNat xs).flatten = xs := by simp
      rw [this]
      exact r1'⟩⟩
  · exact PE.imp (pe_op op_repT ha.r hb.r) fun σ H Q ⟨H0, S, k⟩ => two (Q := fun v w H' => rRepT X.K v w H' Q) ⟨H0, S, fun v w H' H0' g r1 r2 => by
      obtain ⟨q1, vs, rfl, e1, rs1⟩ := r1
      have l1 := rs1.length
      refine ⟨q1, n, vs, rfl, oI r2, SqT.of e1, fun ev => hx (List.eq_nil_of_length_eq_zero (by rw [← l1, ev]; rfl)), by omega, h1, by omega, fun l hl => ?_⟩
      exact k _ _ (upd H0' l _) (g.trans (Gr.new g.ex hl)) (rep_tup.mpr ⟨l, _, rfl, upd_same, Reps.mono (same_new (g.ex.free hl)) _ _ (rs1.rep _)⟩)⟩

/-! ### join -/
theorem reps_strs {T : Addr} {H : Hp} : ∀ {zs : List Str} {vs : List V}, Reps T H (zs.map .str) vs → vs = zs.map V.str
  | [], vs, h => h.nil_iff
  | z :: zs, vs, h => by
    obtain ⟨v, us, rfl, h1, h2⟩ := Reps.cons_iff (show Reps T H (.str z :: zs.map .str) vs from h)
    rw [rep_str.mp h1, reps_strs h2]; rfl
theorem x_join {w : Str} {k : Nat} {zs : List Str} {p1 p3 : Pos} (ha : XE X F a δ (.lst (zs.map .str))) (hz : (zs.map (·.length)).sum + zs.length * w.length ≤ 16777216) (h1 : starEach [a] X.env = (false, eval a X.env) :: starEach [] X.env := by rfl)
    (hb : attributeBase (.Constant (.str w) k p1) "join" X.env (eval (.Constant (.str w) k p1) X.env) = eval (.Constant (.str w) k p1) X.env := by rfl)
    (hf : ((backTo p3 (starEach [a] X.env)).all (fun x => !x.1) && (backToKw p3 (keywordEach [] X.env)).all (fun x => x.1.isSome) && decide (([a] : List Expr).length + ([] : List Keyword).length + (if ([] : List Keyword).isEmpty then 0 else 1) < 30)) = true := by rfl)
    (hl : (p2.endLine == p3.line) = true := by rfl) : XE X F (.Call (.Attribute (.Constant (.str w) k p1) "join" p2) [a] [] p3) δ (.str (Txt.join w zs)) :=
  PE.imp (pe_bm PySem.F.plainAttrs_str PySem.F.slot_str_join PySem.F.type_str_join mt_join pe_str (pa_cons ha pa_nil h1) hb hf hl h1) fun σ H Q ⟨H0, S, kk⟩ => by
    refine ⟨rfl, H0, S, fun v H' H0' g r => ?_⟩
    obtain ⟨q, vs, rfl, e1, rs⟩ := rep_lst.mp r
    have ev : vs = zs.map V.str := reps_strs rs
    subst ev
    exact ⟨w, q, zs, rfl, rfl, .inl (SqL.of (g.ex _ _ e1)), hz, kk _ H' H0' g (rep_str.mpr rfl)⟩

/-! ### len of an instance -/
def rLenI (C : Addr) (sp : Sp) : List V → Hp → VK → Prop := fun vs H Q => ∃ x dx fs, vs = [.ref x] ∧ H x = some (.ins C dx fs) ∧ sp [.ref x] H (fun v H' => ∃ n : Int, v = .int n ∧ 0 ≤ n ∧ n < 2 ^ 63 ∧ Q (.int n) H') E0
theorem call_lenI {C f : Addr} {k : Nat} {fd : FuncData} {ps : List Str} {sp : Sp} (hM : Meth X.K C "__len__" f) (hb : Binds X.K fd ps []) (F : FnOk X.prog X.w X.K X.mg X.base CX0 k f fd ps sp) (hr : Room (k + 1) X.A) : CallR X (.builtin "len") (rLenI C sp) := by
  rintro pins s σ H _ us Q I r ⟨x, dx, fs, rfl, hx, h⟩
  obtain rfl := Vals.ref1 r
  obtain ⟨mA, O, _⟩ := ins_get I.hok hx
  obtain ⟨od, J, hl⟩ := O.look
  have one : [Value.ref x].length = ps.length := F.len _ _ _ _ h
  have bound := hb s [.ref x] I.kIn one
  have ran := F.run X.A.in1 X.stack s H ⟨[.ref x], []⟩ [.ref x] [.ref x] _ _ hr.in1 I.env0.in1 bound r h
  have fn : ∀ {Q' : Option Value → Shared → Prop}, _ → wpAny (model X.prog X.w) X.A.in1 (callSpecial? (.ref x) (Str.ofString "__len__")) Q' X.xe s := fun q => PySem.W.special_fn I.kIn J hM.at_ (beq_iff_eq.mp hM.fn) q
  refine Calls.call_function_entry kind_len plain_len entry_len (args_len1 _) ?_
  unfold Builtin.«len»
  wp_walk using fn
  refine codeAny_mono ran ?_
  rintro (e | fl) s' hq
  · exact hq.elim
  cases fl <;> try exact False.elim hq
  obtain ⟨v, H', I3, rv, n, rfl, h0, h1, q⟩ := I.after hq
  obtain ⟨t, rfl⟩ := rv
  have n0 : ¬ n < 0 := by omega
  have n1 : n < 9223372036854775808 := by omega
  wp_walk
  exact ⟨_, rfl, .int n, H', I3.tok _, ⟨_, rfl⟩, q⟩
theorem x_lenI {k : Nat} {ps : List Str} {pre : List D → D → Prop} {fl : List D} {n : Int} (G : Me X.prog X.w X.K X.mg X.base F.T "__len__" k ps (FSp F.T pre)) (hr : Room (k + 1) X.A) (hm : X.mg "len" = none) (ha : XE X F a δ (.ins fl)) (hp : pre [.ins fl] (.int n)) (h0 : 0 ≤ n) (h1 : n < 2 ^ 63) (hg : Gl X "len" := by rfl)
    (hs : starEach [a] X.env = (false, eval a X.env) :: starEach [] X.env := by rfl) : XE X F (.Call (.Name "len" p) [a] [] pos) δ (.int n) := by
  obtain ⟨f, fd, hM, hb, hF⟩ := G
  refine PE.imp (pe_callB (call_lenI hM hb hF hr) hg hm PySem.boot_len (a_cons ha a_nil hs) (by decide) (by decide) hs) fun σ H Q ⟨H0, S, kk⟩ => ⟨H0, S, fun vs H1 H01 g1 r1 => ?_⟩
  obtain ⟨v, rfl, r2⟩ := r1.one
  obtain ⟨q, dx, us, rfl, e1, hl, rs⟩ := rep_ins.mp r2
  refine ⟨q, dx, _, rfl, g1.ex _ _ e1, call_ok rfl (S.gr g1) (reps_cons r2 reps_nil) hp fun v H' H0' g r => ⟨n, rep_int.mp r, h0, h1, kk _ H' H0' (g1.trans g) (rep_int.mpr rfl)⟩⟩

/-! ### {k: v for ..} -/
section
variable {α : Type} {enc : α → D} {t : Tgt} {iter kx vx : Expr} {scope : Scope} {own : List (Str × Nat)}
theorem m_dc (own : List (Str × Nat)) (t : Tgt) (xs : List α) (enc : α → D) (kf : α → Key) (kd : α → D) (vf : α → D) (hN : X.N.Nodup) (hi : XI X F tg iter δ (xs.map enc)) (ok : BlkOk X.N X.env.scope scope own)
    (hg : ∀ (s : Shared) (H : Hp) (C : Addr) (cl : List (Str × Addr)) (fp : List Addr), XG (X.blk s H scope (compEnvC scope cl C X.env) fp) F tg t)
    (hx : ∀ x ∈ xs, ∃ δ', t.asg (enc x) δ = some δ' ∧ keyD (kd x) = some (kf x) ∧ (∀ (s : Shared) (H : Hp) (C : Addr) (cl : List (Str × Addr)) (fp : List Addr), XE (X.blk s H scope (compEnvC scope cl C X.env) fp) F kx δ' (kd x)) ∧
      ∀ (s : Shared) (H : Hp) (C : Addr) (cl : List (Str × Addr)) (fp : List Addr), XE (X.blk s H scope (compEnvC scope cl C X.env) fp) F vx δ' (vf x))
    (nd : (xs.map kf).Nodup) (hz : xs.length ≤ 1000000) (hu : unAll δ (own.map (·.2)) = true := by rfl) (hsl : ∀ i ∈ t.slots, i ∈ own.map (·.2) := by decide) (hc : X.calm = true := by rfl) (hs : ∀ x, foldedSetIterable iter X.env x = pure x := by intro _; rfl) :
    XM X F (.DictComp kx vx [⟨tg, iter, [], 0⟩] scope pos) δ (xs.map kf) (xs.map vf) := by
  refine PE.imp (pe_dc (own := own) hc hN hi ok (any_g (F := F)) (any_t (F := F)) (any_e (F := F)) (any_e (F := F)) hs) ?_
  rintro σ H Q ⟨H0, S, k⟩
  refine ⟨H0, S, fun J H1 H01 g1 Y Dl hD => ?_⟩
  have S1w := (S.gr g1).wiped hu
  refine ⟨fun i m H2 => m = xs.length - i ∧ i ≤ xs.length ∧ ∃ H02 vs, Gr H01 H1 H02 H2 ∧ H02 Dl = none ∧ H2 Dl = some (.dK (((xs.take i).map kf).zip vs)) ∧ Reps F.T H02 ((xs.take i).map vf) vs, ⟨xs.length, by simp, Nat.zero_le _, H01, [], Gr.laid g1.ex hD, g1.ex.free hD, upd_same, reps_nil⟩, ?_⟩
  rintro i m H2 ⟨rfl, hi', H02, vs, g2, hD0, hDl, rs⟩
  have S2 := S1w.gr g2
  obtain ⟨y1, y2⟩ := Y i H2 (g2.s0.trans g2.ex)
  rw [List.length_map] at y1 y2
  have lv := rs.length
  rw [List.length_map, List.length_take] at lv
  by_cases hlt : i < xs.length
  · obtain ⟨go, yl⟩ := y1 hlt
    refine .inr ⟨go, fun H3 => ∃ H03 vs, Gr H01 H1 H03 H3 ∧ H03 Dl = none ∧ H3 Dl = some (.dK (((xs.take (i + 1)).map kf).zip vs)) ∧ Reps F.T H03 ((xs.take (i + 1)).map vf) vs, fun H3 n => ⟨xs.length - (i + 1), by omega, rfl, hlt, n⟩, fun v H3 hy => ?_⟩
    have hxi : xs[i]? = some xs[i] := List.getElem?_eq_getElem hlt
    obtain ⟨δ', ha, hkd, hk, hv⟩ := hx xs[i] (List.getElem_mem hlt)
    have hy2 := yl v H3 hy (enc xs[i]) (by rw [List.getElem?_map, hxi]; rfl)
    have tk : xs.take (i + 1) = xs.take i ++ [xs[i]] := by rw [List.take_add_one, hxi]; rfl
    obtain ⟨H03, g3, r3, hD3, hDl3⟩ : ∃ H03, Gr H02 H2 H03 H3 ∧ Rep F.T H03 (enc xs[i]) v ∧ H03 Dl = none ∧ H3 Dl = some (.dK (((xs.take i).map kf).zip vs)) := by
      rcases hy2 with ⟨rfl, r⟩ | ⟨p, us, ds, ex, rfl, hp, rfl, r⟩
      · exact ⟨H02, Gr.refl g2.ex, Rep.mono g2.s0 _ _ r, hD0, hDl⟩
      · have np : Dl ≠ p := fun z => by subst z; rw [hDl] at hp; cases hp
        refine ⟨upd H02 p (.tup us), Gr.new g2.ex hp, ?_, by rw [upd_ne np]; exact hD0, by rw [upd_ne np]; exact hDl⟩
        rw [ex]
        exact rep_tup.mpr ⟨p, us, rfl, upd_same, Reps.mono (g2.s0.trans (same_new (g2.ex.free hp))) _ _ r⟩
    refine ⟨t.slots, δ, enc xs[i], δ', fun s H C cl fp => hg s H C cl fp δ _ δ' ha, H03, S2.gr g3, r3, fun us S4 => ⟨wipe_setS hsl, δ', true, fun _ _ _ _ _ => ts_nil, H03, S4, fun H5 H05 g5 => ?_⟩⟩
    show tAnyE X F kx scope _ H5 _
    refine ⟨δ', kd xs[i], hk, H05, S4.gr g5, fun kv H6 H06 g6 r6 => ?_⟩
    refine ⟨δ', vf xs[i], hv, H06, (S4.gr g5).gr g6, fun vv H7 H07 g7 r7 => ?_⟩
    have gg := ((g3.trans g5).trans g6).trans g7
    have g57 := (g5.trans g6).trans g7
    have hD7 : H7 Dl = some (.dK (((xs.take i).map kf).zip vs)) := g57.s _ _ hDl3
    have hD07 := keep_free g57 hD3 hDl3
    have lz : (((xs.take i).map kf).zip vs).length = i := by rw [List.length_zip, List.length_map, List.length_take]; omega
    have no : valV (((xs.take i).map kf).zip vs) (kf xs[i]) = none := by
      cases z : valV (((xs.take i).map kf).zip vs) (kf xs[i]) with
      | none => rfl
      | some u =>
        exfalso
        have h1 : ((((xs.take i).map kf).zip vs).any fun kv => decide (kv.1 = kf xs[i])) = true := by rw [valV_any, z]; rfl
        obtain ⟨kv', hm, e⟩ := List.any_eq_true.mp h1
        have e : kv'.1 = kf xs[i] := by simpa using e
        have hm2 : kv'.1 ∈ (xs.take i).map kf := (List.of_mem_zip hm).1
        rw [e] at hm2
        have nd2 : ((xs.take (i + 1)).map kf).Nodup := by
          rw [← List.take_append_drop (i + 1) xs, List.map_append, List.nodup_append] at nd
          exact nd.1
        rw [tk, List.map_append, List.nodup_append] at nd2
        exact nd2.2.2 _ hm2 _ List.mem_cons_self rfl
    refine ⟨_, kf xs[i], keyD_rep hkd (r6.o g6.ex), hD7, by rw [lz, sizeLine_eq]; omega, H07, vs ++ [vv], (g2.trans gg).app hD hD07, hD07, ?_, ?_⟩
    · rw [upd_same, putK_new vv no, tk, List.map_append, List.zip_append (by rw [List.length_map, List.length_take]; omega)]
      rfl
    · rw [tk, List.map_append]
      exact (Reps.mono gg.s0 _ _ rs).append (reps_cons r7 reps_nil)
  · have e : i = xs.length := by omega
    subst e
    refine .inl ⟨y2 rfl, ?_⟩
    rw [List.take_length] at hDl rs
    exact k Dl vs H2 H02 (g1.trans g2) (g1.s.free hD) hD0 hDl (by rw [List.length_map, List.length_map]) rs
end
end
end Dl
end
section
set_option Elab.async false
set_option linter.all false
set_option maxRecDepth 100000
set_option maxHeartbeats 2000000
/-! Instances made; a dict filled from a list. -/
namespace Dl
open PySem PySem.Spec PyProof.Rows L2
section
variable {X : Cx} {F : Fm} {δ : List LV} {a b c e o tg : Expr} {es : List Expr} {x y z : D} {pos p p2 p3 : Pos} {σ : L2.St} {H : Hp} {xs ys : List D} {Φ : DE}
theorem putF_new {f : Str} {v : V} : ∀ {fs : List (Str × V)}, f ∉ fs.map (·.1) → putF f v fs = fs ++ [(f, v)]
  | [], _ => rfl
  | (g, u) :: fs, h => by
    unfold putF
    rw [if_neg (fun z => h (by rw [List.map_cons]; exact z ▸ List.mem_cons_self)), putF_new (fun z => h (List.mem_cons_of_mem _ z))]
    rfl
/-- self.f = e -/
theorem hs_self (i : Nat) {n f : Str} {q : Addr} {fs : List D} (hc : Cls X.K F.T) (hn : NoAttr X.K F.T f) (he : XE X F e δ x) (hl : δ[i]? = some (.N q fs)) (hf : fieldNames[fs.length]? = some f) (h : Φ.nx (δ.set i (.N q (fs ++ [x])))) (hN : X.N[i]? = some n := by rfl) (hv : Vis X.env.scope n := by first | exact Or.inl rfl | exact Or.inr (Or.inl rfl) | exact Or.inr (Or.inr rfl))
    (hd : (n == ("__debug__" : Str)) = false := by decide) (hcd : (n == ("__classdict__" : Str)) = false := by decide) (hs : swapsWith e (some (.Attribute (.Name n p) f p2)) pos.line X.env = pure false := by rfl) : HS X F (.Assign [.Attribute (.Name n p) f p2] e pos) δ Φ :=
  PS.imp (ps_fld (pe_var (i := i) hN hv hd hcd) he hs) fun E σ H ⟨H0, S, k⟩ => ⟨H0, S, fun v H1 H01 g1 r1 => by
    obtain ⟨a, ea, h0, hb, eq, dx, vs, e1, rs⟩ := (S.gr g1).own i _ hl rfl
    have lv := rs.length
    have hlt := (List.getElem?_eq_some_iff.mp hf).1
    have l5 : fieldNames.length = 5 := rfl
    have lz : ((fieldNames.take fs.length).zip vs).length = fs.length := by rw [List.length_zip, List.length_take]; omega
    refine ⟨.ref a, ea, a, F.T, dx, _, rfl, e1, hc, hn, by rw [lz]; omega, ?_⟩
    refine k.nx σ _ H01 _ g1.s0 ((S.gr g1).mutate (l' := .N q (fs ++ [x])) hl rfl ea rfl ⟨eq, dx, vs ++ [v], ?_, rs.append (reps_cons r1 reps_nil)⟩) h
    rw [upd_same, putF_new, List.length_append, List.length_singleton, List.take_add_one, hf, List.zip_append (by rw [List.length_take]; omega)]
    · rfl
    · intro hm
      obtain ⟨q', hq', e'⟩ := List.mem_map.mp hm
      have := (List.of_mem_zip hq').1
      rw [e'] at this
      have nd : (fieldNames.take (fs.length + 1)).Nodup := List.Pairwise.sublist (List.take_sublist _ _) fields_nodup
      rw [List.take_add_one, hf, List.nodup_append] at nd
      exact nd.2.2 _ this _ List.mem_cons_self rfl⟩

/-! ### __init__ -/
def FSpI (T : Addr) (pre : List D → List D → Prop) : Sp := fun vs H Q _ => ∃ Z ds fs x dx us, vs = .ref x :: us ∧ H x = some (.ins T dx []) ∧ Z x = none ∧ Same Z H ∧ Reps T Z ds us ∧ pre ds fs ∧
  ∀ H' Z' dx' ws, (∀ b o, b ≠ x → H b = some o → H' b = some o) → Same Z Z' → Same Z' H' → (∀ b o, Z' b = some o → Z b = some o ∨ b = x ∨ H b = none) → Z' x = none → H' x = some (.ins T dx' (fieldNames.zip ws)) → Reps T Z' fs ws → Q .non H'
end
section
variable {P : Program} {w : World} {K : PySem.W.Frag} {mg : Str → Option Value} {base : Heap} {n qual : Str} {params : Arguments} {body : List Stmt} {scope : Scope} {f : Addr} {fd : FuncData} {N ps : List Str} {k : Nat} {T : Addr} {pre : List D → List D → Prop}
theorem fn_okI (F : FunD K n qual params body scope [] [] f fd) (S : FnScope N ps scope) (hp : ∀ ds fs, pre ds fs → ds.length + 1 = ps.length) (h5 : ∀ ds fs, pre ds fs → fs.length = 5)
    (h : ∀ (cdv : Value) (A : Around) (outer : List Env) (s : Shared) (H : Hp) (E : XK) (B Z : Hp) (x : Addr) (ds fs : List D), pre ds fs → Room k (cxF P w K mg base N qual scope f cdv A outer s H E).A → HSs (cxF P w K mg base N qual scope f cdv A outer s H E) ⟨T, P, w, B, Z⟩ body (.N x [] :: begun (N.drop 1) ds) { nx := fun δ => δ[0]? = some (.N x fs), rt := fun _ => False }) :
    FnOk P w K mg base CX0 (k + 1) f fd ps (FSpI T pre) := by
  refine F.ok S (fun vs H Q E ⟨Z, ds, fs, x, dx, us, e, _, _, _, r, q, _⟩ => by rw [e, List.length_cons, r.length]; exact hp ds fs q) fun cdv A outer s H vs Q E hr hsp => ?_
  obtain ⟨Z, ds, fs, x, dx, us, rfl, hx, hZx, hZ, r, q, c⟩ := hsp
  have l := r.length
  have hl : ps.length ≤ N.length := by have := congrArg List.length S.pre; rw [List.length_take] at this; omega
  have hpl := hp ds fs q
  refine ⟨_, (h cdv A outer s H E (fun b => if b = x then none else H b) Z x ds fs q hr).nox, Z, ?_, ?_⟩
  · have hs : ∀ i, (L2.start N (.ref x :: us))[i + 1]? = (L2.start (N.drop 1) us)[i]? := fun i => by
      unfold L2.start
      rw [List.map_cons, List.cons_append, List.getElem?_cons_succ, List.length_drop, List.length_cons]
      congr 3
      omega
    have sub : SRep ⟨T, P, w, H, Z⟩ Z (L2.start (N.drop 1) us) H (begun (N.drop 1) ds) := start_ok (F := ⟨T, P, w, H, Z⟩) hZ r (by rw [List.length_drop]; omega)
    have noown : ∀ (j : Nat) (l : LV), (begun (N.drop 1) ds)[j]? = some l → isOwn l = true → False := fun j l hj io => by
      unfold begun at hj
      by_cases q : j < ds.length
      · rw [List.getElem?_append_left (by simpa using q), List.getElem?_map, List.getElem?_eq_getElem q] at hj
        cases hj; cases io
      · rw [List.getElem?_append_right (by simpa using q), List.getElem?_replicate] at hj
        split at hj
        · cases hj; cases io
        · cases hj
    refine ⟨Same.refl _, hZ, fun b o e => ?_, New.refl, ?_, fun i y e => ?_, fun i l e io => ?_, fun i j l m a e1 o1 e2 o2 _ _ => ?_⟩
    · have e : (if b = x then none else H b) = some o := e
      by_cases z : b = x
      · rw [if_pos z] at e; cases e
      · rw [if_neg z] at e; exact e
    · unfold begun L2.start
      simp only [List.length_cons, List.length_append, List.length_map, List.length_replicate, List.length_drop]
      omega
    · cases i with
      | zero => simp at e
      | succ i =>
        rw [hs]
        exact sub.dat i y (by simpa using e)
    · cases i with
      | zero =>
        have e : LV.N x [] = l := by simpa using e
        subst e
        exact ⟨x, rfl, hZx, if_pos rfl, rfl, dx, [], hx, reps_nil⟩
      | succ i => exact (noown i l (by simpa using e) io).elim
    · cases i with
      | zero =>
        cases j with
        | zero => rfl
        | succ j => exact (noown j m (by simpa using e2) o2).elim
      | succ i => exact (noown i l (by simpa using e1) o1).elim
  · refine ⟨fun σ' H' H0' δ' _ S' m => ?_, fun v σ' H' H0' δ' y _ S' r' m => m.elim, fun _ _ _ _ _ _ m => m.elim, fun _ _ _ _ _ _ m => m.elim⟩
    obtain ⟨a, ea, h0, hb, eq, dx', ws, e1, rs⟩ := S'.own 0 _ m rfl
    subst eq
    rw [h5 ds fs q] at e1
    exact c H' H0' dx' ws (fun b o ne e => S'.bb b o (by show (if b = a then none else H b) = some o; rw [if_neg ne]; exact e)) S'.zb S'.ex (fun b o e => by
      rcases S'.fr b o e with z | z
      · exact .inl z
      · have z : (if b = a then none else H b) = none := z
        by_cases y : b = a
        · exact .inr (.inl y)
        · rw [if_neg y] at z; exact .inr (.inr z)) h0 e1 rs
/-- the class makes its instances by the promise -/
def Mkr (P : Program) (w : World) (K : PySem.W.Frag) (mg : Str → Option Value) (base : Heap) (C : Addr) (n : Str) (k : Nat) (ps : List Str) (sp : Sp) : Prop :=
  ∃ f fd, mg n = some (.ref C) ∧ Mk K C f ∧ Binds K fd ps [] ∧ FnOk P w K mg base CX0 k f fd ps sp
end
section
variable {X : Cx} {F : Fm} {δ : List LV} {a b c e o tg : Expr} {es : List Expr} {x y z : D} {pos p p2 p3 : Pos} {σ : L2.St} {H : Hp} {xs ys : List D} {Φ : DE}
theorem x_make {n : Str} {k : Nat} {ps : List Str} {pre : List D → List D → Prop} {ds fs : List D} (G : Mkr X.prog X.w X.K X.mg X.base F.T n k ps (FSpI F.T pre)) (hr : Room (k + 1) X.A) (ha : XA X F (e :: es) δ ds) (hp : pre ds fs) (h5 : fs.length = 5) (hg : Gl X n := by rfl) (hdb : (n == ("__debug__" : Str)) = false := by decide)
    (he : starEach (e :: es) X.env = (false, eval e X.env) :: starEach es X.env := by rfl) (hpl : (backTo pos (starEach es X.env)).any (·.1) = false := by rfl) : XE X F (.Call (.Name n p) (e :: es) [] pos) δ (.ins fs) := by
  obtain ⟨f, fd, hm, M, hb, hF⟩ := G
  refine PE.imp (pe_make M hF hr hg hm hb .nil (E := E0) pass0 ha hdb he hpl) fun σ H Q ⟨H0, S, c⟩ => ⟨H0, S, fun vs H1 H01 g1 r1 x dx hx hdx ne => ?_⟩
  rw [List.append_nil]
  have hx0 := g1.ex.free hx
  refine ⟨H01, ds, fs, x, dx, vs, rfl, upd_same, hx0, fun b o e => ?_, r1, hp, fun H' Z' dx' ws kp s0 ex nw zx hX rs => ⟨rfl, ?_⟩⟩
  · have e' := g1.ex _ _ e
    rw [upd_ne (ne_of_none e' hx), upd_ne (ne_of_none e' hdx)]
    exact e'
  · have g : Gr H01 H1 (upd Z' x (.ins F.T dx' (fieldNames.zip ws))) H' := by
      refine ⟨fun b o e => kp b o (ne_of_none e hx) ?_, s0.trans (same_new zx), fun b o e => ?_, fun b o e => ?_⟩
      · rw [upd_ne (ne_of_none e hx), upd_ne (ne_of_none e hdx)]; exact e
      · by_cases q : b = x
        · subst q; rw [upd_same] at e; cases e; exact hX
        · rw [upd_ne q] at e; exact ex b o e
      · by_cases q : b = x
        · subst q; exact .inr hx
        · rw [upd_ne q] at e
          rcases nw b o e with z | z | z
          · exact .inl z
          · exact absurd z q
          · rw [upd_ne q] at z
            by_cases q2 : b = dx
            · subst q2; exact .inr hdx
            · rw [upd_ne q2] at z; exact .inr z
    exact c _ H' _ (g1.trans g) (rep_ins.mpr ⟨x, dx', ws, rfl, upd_same, h5, Reps.mono (same_new zx) _ _ rs⟩)

/-! ### for v in w: t[v] = s -/
theorem hs_fill (iv iw it : Nat) {nv nw nt : Str} {s : Str} {ns : List Int} {pv pw pt pv2 psub pc pasg : Pos} {kc : Nat} (hu : X.A.units + 1 < cLine) (hN : X.N.Nodup) (hvu : δ[iv]? = some .un) (hw : δ[iw]? = some (.L (ns.map .int))) (ht : δ[it]? = some (.M [] [])) (nd : ns.Nodup) (hz : ns.length ≤ 1000000)
    (h : Φ.nx (δ.set it (.M (ns.map .inl) (ns.map fun _ => .str s)))) (hNv : X.N[iv]? = some nv := by rfl) (hNw : X.N[iw]? = some nw := by rfl) (hNt : X.N[it]? = some nt := by rfl)
    (hxv : Loc X.env.scope nv := by first | exact Or.inl rfl | exact Or.inr rfl) (hfv : X.fn nv = true ∨ X.env.scope.names.lookup nv = some .local := by first | exact .inl rfl | exact .inr rfl)
    (hvv : Vis X.env.scope nv := by first | exact Or.inl rfl | exact Or.inr (Or.inl rfl) | exact Or.inr (Or.inr rfl)) (hvw : Vis X.env.scope nw := by first | exact Or.inl rfl | exact Or.inr (Or.inl rfl) | exact Or.inr (Or.inr rfl)) (hvt : Vis X.env.scope nt := by first | exact Or.inl rfl | exact Or.inr (Or.inl rfl) | exact Or.inr (Or.inr rfl))
    (d1 : (nv == ("__debug__" : Str)) = false := by decide) (d2 : (nw == ("__debug__" : Str)) = false := by decide) (d3 : (nt == ("__debug__" : Str)) = false := by decide) (c1 : (nv == ("__classdict__" : Str)) = false := by decide) (c2 : (nw == ("__classdict__" : Str)) = false := by decide) (c3 : (nt == ("__classdict__" : Str)) = false := by decide)
    (hs : swapsWith (.Constant (.str s) kc pc) (some (.Subscript (.Name nt pt) (.Name nv pv2) psub)) pasg.line X.env = pure false := by rfl) (hp : PassesOwn (model X.prog X.w) X.A X.env X.xe := by exact PassesOwn.never) (hc : X.calm = true := by rfl) (hf : ∀ x, foldedSetIterable (.Name nw pw) X.env x = pure x := by intro _; rfl) :
    HS X F (.For (.Name nv pv) (.Name nw pw) [.Assign [.Subscript (.Name nt pt) (.Name nv pv2) psub] (.Constant (.str s) kc pc) pasg] [] pos) δ Φ := by
  refine PS.imp (ps_for hp hc (pi_list (pe_var (i := iw) hNw hvw d2 c2)) (pg_name hN hNv hxv hfv) (pss_one (ps_dput hu (pe_var (i := it) hNt hvt d3 c3) (pe_var (i := iv) hNv hvv d1 c1) pe_str hs)) hf) fun E σ H ⟨H0, S, k⟩ => ?_
  obtain ⟨aw, ew, _, _, ws, hws, rw'⟩ := S.own iw _ hw rfl
  obtain ⟨at', et, h0t, hbt, ts, hts, lts, rts⟩ := S.own it _ ht rfl
  have ets : ts = [] := rts.nil_iff
  subst ets
  have ews : ws = ns.map V.int := Reps.ints rw'
  subst ews
  have nea : aw ≠ at' := fun z => by subst z; rw [hws] at hts; cases hts
  have hivl : iv < σ.length := by rw [← S.len]; exact (List.getElem?_eq_some_iff.mp hvu).1
  have nit : iv ≠ it := fun z => by subst z; rw [ht] at hvu; cases hvu
  have niw : iv ≠ iw := fun z => by subst z; rw [hw] at hvu; cases hvu
  refine ⟨.ref aw, ew, aw, rfl, ⟨_, SqL.of hws⟩, ?_⟩
  refine ⟨fun i m σ' H' => m = ns.length - i ∧ i ≤ ns.length ∧ (∀ j, j ≠ iv → σ'[j]? = σ[j]?) ∧ σ'.length = σ.length ∧ H' at' = some (.dK (((ns.take i).map fun n => (Sum.inl n, V.str s)))) ∧ ∀ b, b ≠ at' → H' b = H b, ⟨ns.length, by simp, Nat.zero_le _, fun _ _ => rfl, rfl, hts, fun _ _ => rfl⟩, ?_⟩
  rintro i m σ1 H1 ⟨rfl, hi, hσ, hlen, hT, hH⟩
  have hw1 : H1 aw = some (.lst (ns.map V.int)) := (hH aw nea).trans hws
  by_cases hlt : i < ns.length
  · refine .inr ⟨⟨_, V.int ns[i], SqL.of hw1, by rw [List.getElem?_map, List.getElem?_eq_getElem hlt]; rfl⟩, fun σ' H' => (∀ j, j ≠ iv → σ'[j]? = σ[j]?) ∧ σ'.length = σ.length ∧ H' at' = some (.dK (((ns.take (i + 1)).map fun n => (Sum.inl n, V.str s)))) ∧ ∀ b, b ≠ at' → H' b = H b, fun σ' H' ⟨h1, h2, h3, h4⟩ => ⟨ns.length - (i + 1), by omega, rfl, hlt, h1, h2, h3, h4⟩, fun v H' hy => ?_⟩
    obtain ⟨rfl, hv⟩ := hy
    have ev : v = .int ns[i] := by
      have := hv _ (SqL.of hw1)
      rw [List.getElem?_map, List.getElem?_eq_getElem hlt] at this
      exact (Option.some.inj this).symm
    subst ev
    show sDPut _ _ _ _ (σ1.set iv (some (.int ns[i]))) H'
    have e1 : (σ1.set iv (some (V.int ns[i])))[it]? = some (some (.ref at')) := by rw [List.getElem?_set_ne nit, hσ it (Ne.symm nit)]; exact et
    refine ⟨.ref at', e1, .int ns[i], by rw [List.getElem?_set_self (by omega)], at', _, rfl, DPut.k (k := .inl ns[i]) hT (by rw [List.length_map, List.length_take, sizeLine_eq]; omega), ?_⟩
    refine ⟨fun j hj => by rw [List.getElem?_set_ne (Ne.symm hj)]; exact hσ j hj, by rw [List.length_set]; exact hlen, ?_, fun b hb => by rw [upd_ne hb]; exact hH b hb⟩
    have no : valV ((ns.take i).map fun n => ((Sum.inl n : Key), V.str s)) (.inl ns[i]) = none := by
      cases z : valV ((ns.take i).map fun n => ((Sum.inl n : Key), V.str s)) (.inl ns[i]) with
      | none => rfl
      | some u =>
        exfalso
        have h1 : (((ns.take i).map fun n => ((Sum.inl n : Key), V.str s)).any fun kv => decide (kv.1 = (.inl ns[i] : Key))) = true := by rw [valV_any, z]; rfl
        obtain ⟨kv', hm, e⟩ := List.any_eq_true.mp h1
        obtain ⟨n', hn', rfl⟩ := List.mem_map.mp hm
        have e : n' = ns[i] := by simpa using e
        subst e
        obtain ⟨j, hj⟩ := List.mem_iff_getElem?.mp hn'
        rw [List.getElem?_take] at hj
        split at hj
        · rename_i hji
          obtain ⟨hjl, ej⟩ := List.getElem?_eq_some_iff.mp hj
          exact absurd ej (List.pairwise_iff_getElem.mp nd j i hjl hlt hji)
        · cases hj
    rw [upd_same, putK_new _ no, List.take_add_one, List.getElem?_eq_getElem hlt, List.map_append]
    rfl
  · have e : i = ns.length := by omega
    subst e
    refine .inl ⟨⟨_, SqL.of hw1, by rw [List.length_map]; exact Nat.le_refl _⟩, ?_⟩
    rw [List.take_length] at hT
    have eH : H1 = upd H at' (.dK (ns.map fun n => (Sum.inl n, V.str s))) := by
      funext b
      by_cases z : b = at'
      · subst z; rw [upd_same]; exact hT
      · rw [upd_ne z]; exact hH b z
    subst eH
    have S1 : SRep F H0 σ1 H δ := S.slots hlen fun j l hj nu => hσ j fun z => by subst z; rw [hvu] at hj; cases hj; exact nu rfl
    have e1 : σ1[it]? = some (some (.ref at')) := by rw [hσ it (Ne.symm nit)]; exact et
    refine k.nx σ1 _ H0 _ (Same.refl _) (S1.mutate (l' := .M (ns.map .inl) (ns.map fun _ => .str s)) ht rfl e1 rfl ⟨ns.map fun _ => V.str s, ?_, by rw [List.length_map, List.length_map], ?_⟩) h
    · rw [upd_same]
      congr 2
      clear rw' hz h hws hw hw1 hlt hi nd hT e1 hH
      induction ns with
      | nil => rfl
      | cons n ns ih => simp [ih]
    · clear rw' hz h hws hw hw1 hlt hi nd hT e1 hH
      induction ns with
      | nil => exact reps_nil
      | cons n ns ih => exact reps_cons (rep_str.mpr rfl) ih
end
end Dl
end
section
set_option Elab.async false
set_option linter.all false
set_option maxRecDepth 100000
/-! Tallies as data of the model. -/
namespace Tly
open PySem PySem.Spec PyProof.Rows L2 Dl

def mkS (l : List Nat) : Str := ⟨l.toArray⟩
def rowD (r : Row) : D := .tup (r.map .int)
def tabD (m : Tab) : D := .tup (m.map rowD)
def Tal.d (t : Tal) : D := .ins [.str (mkS t.dg), rowD t.start, .tup (t.tables.map tabD), rowD t.ends, .dk (t.dg.map fun c => .inr (sg c)) (t.tables.map tabD)]
/-- states as a list of ints -/
def stD (l : List Nat) : List D := l.map fun (k : Nat) => D.int (k : Int)
theorem Tal.Ok.tl {t : Tal} (h : t.Ok) : 1 ≤ t.tables.length ∧ t.tables.length ≤ 3 := by
  rw [h.len]; exact h.dlen
theorem stD_ints (l : List Nat) : stD l = (l.map fun (k : Nat) => (k : Int)).map D.int := by unfold stD; rw [List.map_map]; rfl
theorem mem_ints {l : List Nat} {k : Nat} : ((k : Nat) : Int) ∈ (l.map fun (k : Nat) => (k : Int)) ↔ k ∈ l := by
  rw [List.mem_map]
  exact ⟨fun ⟨a, h, e⟩ => by have : a = k := Int.ofNat.inj e; exact this ▸ h, fun h => ⟨k, h, rfl⟩⟩
theorem asc_ints {l : List Nat} (h : l.Pairwise (· < ·)) : (l.map fun (k : Nat) => (k : Int)).Pairwise (· < ·) := List.pairwise_map.mpr (h.imp fun z => by omega)
end Tly
end
section
set_option Elab.async false
set_option linter.all false
set_option maxRecDepth 100000
set_option maxHeartbeats 2000000
/-! What the top has left, as the walks use it. -/
namespace Tly
open PySem PySem.Spec PyProof.Rows L2 Dl

structure Wd (K : PySem.W.Frag) (mg : Str → Option Value) : Prop where
  ex : ∃ h : Heap, K.In h ∧ h.Ns mainGlobals mg
  says : He.SaysD fa fn K
section
variable {P : Program} {w : World} {K : PySem.W.Frag} {mg : Str → Option Value} {base : Heap}
theorem Wd.glo (W : Wd K mg) (i : Nat) {n : Str} (h : fa[i]? = some (.glo n)) : mg n = some (.ref (He.ga K n)) := let ⟨_, X, G⟩ := W.ex; He.glo_ok X G (W.says.fact i h)
theorem Wd.free (W : Wd K mg) (i : Nat) {n : Str} (h : fa[i]? = some (.free n)) : mg n = none := let ⟨_, X, G⟩ := W.ex; He.free_ok X G (W.says.fact i h)
theorem Wd.gstr (W : Wd K mg) (i : Nat) {n s : Str} (h : fa[i]? = some (.str n s)) : ∃ t, mg n = some (.str s t) := let ⟨_, X, G⟩ := W.ex; He.str_ok X G (W.says.fact i h)
theorem Wd.gint (W : Wd K mg) (i : Nat) {n : Str} {s : Int} (h : fa[i]? = some (.int n s)) : ∃ t, mg n = some (.int s t) := let ⟨_, X, G⟩ := W.ex; He.int_ok X G (W.says.fact i h)
/-- the class Tally -/
abbrev TA (K : PySem.W.Frag) : Addr := He.ga K "Tally"
theorem mk_fn {n : Str} {ps N : List Str} {k : Nat} {pre : List D → D → Prop} {d : He.DefD} (W : Wd K mg) (i j : Nat) (hf : fa[j]? = some (.glo n)) (hd : fn[i]? = some d) (hat : d.at_ = (n, none)) (hdf : d.dfl = []) (hkw : d.kwd = [])
    (S : FnScope N ps d.scope) (hp : ∀ ds x, pre ds x → ds.length = ps.length)
    (hb : ∀ (kV doc pm : Value) (an : Option Addr) (cdv ct : Value) (us : List Value), us.length = ps.length → bindArgs (PySem.W.fnOf d.name d.qual d.params d.body d.scope .none kV doc pm an cdv ct) ⟨us, []⟩ = pure (ps.zip us))
    (h : ∀ (f : Addr) (cdv : Value) (A : Around) (outer : List Env) (s : Shared) (H : Hp) (E : XK) (Z : Hp) (ds : List D) (x : D), pre ds x → Room k (cxF P w K mg base N d.qual d.scope f cdv A outer s H E).A → HSs (cxF P w K mg base N d.qual d.scope f cdv A outer s H E) ⟨TA K, P, w, H, Z⟩ d.body (begun N ds) (ret x)) :
    Fn P w K mg base n (k + 1) ps (FSp (TA K) pre) := by
  obtain ⟨fd, F⟩ := W.says.def_ i hd
  have e1 : d.dvs K = [] := by unfold He.DefD.dvs; rw [hdf]; rfl
  have e2 : d.kws K = [] := by unfold He.DefD.kws; rw [hkw]; rfl
  rw [e1, e2] at F
  have ea : He.fAd K d.at_ = He.ga K n := by rw [hat]; rfl
  rw [ea] at F
  exact ⟨He.ga K n, fd, W.glo j hf, F.kp, F.bindsN hb, Dl.fn_ok F S hp (h _)⟩
theorem mk_me {m : Str} {ps N : List Str} {k : Nat} {pre : List D → D → Prop} {d : He.DefD} (W : Wd K mg) (i : Nat) (hM : Meth K (TA K) m (He.ma K (TA K) m)) (hd : fn[i]? = some d) (hat : d.at_ = (("Tally" : Str), some m)) (hdf : d.dfl = []) (hkw : d.kwd = [])
    (S : FnScope N ps d.scope) (hp : ∀ ds x, pre ds x → ds.length = ps.length)
    (hb : ∀ (kV doc pm : Value) (an : Option Addr) (cdv ct : Value) (us : List Value), us.length = ps.length → bindArgs (PySem.W.fnOf d.name d.qual d.params d.body d.scope .none kV doc pm an cdv ct) ⟨us, []⟩ = pure (ps.zip us))
    (h : ∀ (f : Addr) (cdv : Value) (A : Around) (outer : List Env) (s : Shared) (H : Hp) (E : XK) (Z : Hp) (ds : List D) (x : D), pre ds x → Room k (cxF P w K mg base N d.qual d.scope f cdv A outer s H E).A → HSs (cxF P w K mg base N d.qual d.scope f cdv A outer s H E) ⟨TA K, P, w, H, Z⟩ d.body (begun N ds) (ret x)) :
    Me P w K mg base (TA K) m (k + 1) ps (FSp (TA K) pre) := by
  obtain ⟨fd, F⟩ := W.says.def_ i hd
  have e1 : d.dvs K = [] := by unfold He.DefD.dvs; rw [hdf]; rfl
  have e2 : d.kws K = [] := by unfold He.DefD.kws; rw [hkw]; rfl
  rw [e1, e2] at F
  have ea : He.fAd K d.at_ = He.ma K (TA K) m := by rw [hat]; rfl
  rw [ea] at F
  exact ⟨_, fd, hM, F.bindsN hb, Dl.fn_ok F S hp (h _)⟩
theorem Wd.b_range (W : Wd K mg) : mg "range" = none := W.free 70 rfl
theorem Wd.b_len (W : Wd K mg) : mg "len" = none := W.free 71 rfl
theorem Wd.b_zip (W : Wd K mg) : mg "zip" = none := W.free 72 rfl
theorem Wd.b_enumerate (W : Wd K mg) : mg "enumerate" = none := W.free 73 rfl
theorem Wd.b_sum (W : Wd K mg) : mg "sum" = none := W.free 74 rfl
theorem Wd.b_sorted (W : Wd K mg) : mg "sorted" = none := W.free 75 rfl
theorem Wd.b_set (W : Wd K mg) : mg "set" = none := W.free 76 rfl
theorem Wd.b_list (W : Wd K mg) : mg "list" = none := W.free 77 rfl
theorem Wd.b_tuple (W : Wd K mg) : mg "tuple" = none := W.free 78 rfl
theorem Wd.b_dict (W : Wd K mg) : mg "dict" = none := W.free 79 rfl
theorem Wd.b_any (W : Wd K mg) : mg "any" = none := W.free 80 rfl
theorem Wd.b_all (W : Wd K mg) : mg "all" = none := W.free 81 rfl
theorem Wd.b_max (W : Wd K mg) : mg "max" = none := W.free 82 rfl
theorem Wd.b_min (W : Wd K mg) : mg "min" = none := W.free 83 rfl
theorem Wd.b_int (W : Wd K mg) : mg "int" = none := W.free 84 rfl
theorem Wd.b_isinstance (W : Wd K mg) : mg "isinstance" = none := W.free 85 rfl
theorem Wd.b_str (W : Wd K mg) : mg "str" = none := W.free 86 rfl
theorem Wd.b_bool (W : Wd K mg) : mg "bool" = none := W.free 87 rfl
theorem Wd.cls (W : Wd K mg) : Cls K (TA K) := He.cls_ok (x := "Tally") (W.says.fact 89 (by rfl))
theorem Wd.mkr (W : Wd K mg) : Mk K (TA K) (He.ma K (TA K) "__init__") := He.mkr_ok (x := "Tally") (W.says.fact 90 (by rfl))
theorem Wd.na_digits (W : Wd K mg) : NoAttr K (TA K) "digits" := He.noat_ok (x := "Tally") (W.says.fact 91 (by rfl))
theorem Wd.na_start (W : Wd K mg) : NoAttr K (TA K) "start" := He.noat_ok (x := "Tally") (W.says.fact 92 (by rfl))
theorem Wd.na_tables (W : Wd K mg) : NoAttr K (TA K) "tables" := He.noat_ok (x := "Tally") (W.says.fact 93 (by rfl))
theorem Wd.na_ends (W : Wd K mg) : NoAttr K (TA K) "ends" := He.noat_ok (x := "Tally") (W.says.fact 94 (by rfl))
theorem Wd.na_table_by_digit (W : Wd K mg) : NoAttr K (TA K) "table_by_digit" := He.noat_ok (x := "Tally") (W.says.fact 95 (by rfl))
theorem Wd.me_init (W : Wd K mg) : Meth K (TA K) "__init__" (He.ma K (TA K) "__init__") := He.meth_ok (x := "Tally") (W.says.fact 96 (by rfl))
theorem Wd.me_len (W : Wd K mg) : Meth K (TA K) "__len__" (He.ma K (TA K) "__len__") := He.meth_ok (x := "Tally") (W.says.fact 97 (by rfl))
theorem Wd.me_step (W : Wd K mg) : Meth K (TA K) "step" (He.ma K (TA K) "step") := He.meth_ok (x := "Tally") (W.says.fact 98 (by rfl))
theorem Wd.me_row (W : Wd K mg) : Meth K (TA K) "row" (He.ma K (TA K) "row") := He.meth_ok (x := "Tally") (W.says.fact 99 (by rfl))
theorem Wd.me_table (W : Wd K mg) : Meth K (TA K) "table" (He.ma K (TA K) "table") := He.meth_ok (x := "Tally") (W.says.fact 100 (by rfl))
theorem Wd.s_FIGURES (W : Wd K mg) : ∃ t, mg "FIGURES" = some (.str "0123456789" t) := W.gstr 101 rfl
theorem Wd.s_DOUBLES (W : Wd K mg) : ∃ t, mg "DOUBLES" = some (.str "doubles" t) := W.gstr 102 rfl
theorem Wd.s_POWER (W : Wd K mg) : ∃ t, mg "POWER" = some (.str "power" t) := W.gstr 103 rfl
theorem Wd.i_DOUBLES_PARTS (W : Wd K mg) : ∃ t, mg "DOUBLES_PARTS" = some (.int 5 t) := W.gint 104 rfl
theorem Wd.i_POWER_PARTS (W : Wd K mg) : ∃ t, mg "POWER_PARTS" = some (.int 4 t) := W.gint 105 rfl
theorem Wd.i_PIECE_PARTS (W : Wd K mg) : ∃ t, mg "PIECE_PARTS" = some (.int 4 t) := W.gint 106 rfl
theorem Wd.i_LEVEL_PARTS (W : Wd K mg) : ∃ t, mg "LEVEL_PARTS" = some (.int 2 t) := W.gint 107 rfl
theorem Wd.g_Tally (W : Wd K mg) : mg "Tally" = some (.ref (TA K)) := W.glo 88 rfl
end
end Tly
end
section
set_option Elab.async false
set_option linter.all false
set_option maxRecDepth 100000
set_option maxHeartbeats 2000000
namespace Tly
open PySem PySem.Spec PyProof.Rows L2 Dl
section
variable {X : Cx} {F : Fm} {δ : List LV} {a b c e : Expr} {p1 p2 : Pos}
theorem x_ent {n : Nat} {m : Tab} {i j : Nat} (sq : SqT' n m) (hi : i < n) (hj : j < n) (ha : XE X F a δ (tabD m)) (hb : XE X F b δ (.int (i : Int))) (hc : XE X F c δ (.int (j : Int))) (h1 : PlainIx b := by exact fun _ _ => rfl) (h2 : PlainIx c := by exact fun _ _ => rfl) :
    XE X F (.Subscript (.Subscript a b p1) c p2) δ (.int (ent m i j)) := by
  obtain ⟨r, e1, e2⟩ := ent_at sq hi hj
  have f1 : atI (m.map rowD) (i : Int) = some (rowD r) := atI_nat (by rw [List.getElem?_map, e1]; rfl)
  have f2 : atI (r.map D.int) (j : Int) = some (.int (ent m i j)) := atI_nat (by rw [List.getElem?_map, e2]; rfl)
  exact x_ixT (XE.r (x_ixT (XE.r ha) hb f1 h1)) hc f2 h2
end
section
variable {P : Program} {w : World} {K : PySem.W.Frag} {mg : Str → Option Value} {base : Heap}
def pre_nexts (ds : List D) (x : D) : Prop := ∃ (t : Tal) (s : Nat), t.Ok ∧ s < t.n ∧ ds = [t.d, .int s] ∧ x = .lst (stD (nexts t s))
theorem sc_nexts : FnScope ["tally", "state", "size", "spot", "table"] ["tally", "state"] (defScope s_nexts) := ⟨rfl, rfl, rfl, by decide +kernel, rfl, by decide +kernel, by decide +kernel⟩
theorem ok_nexts (W : Wd K mg) : Fn P w K mg base "nexts" 1 ["tally", "state"] (FSp (TA K) pre_nexts) := by
  refine mk_fn (d := d_nexts) W 18 13 rfl rfl rfl rfl rfl sc_nexts (fun ds x ⟨t, s, _, _, e, _⟩ => by rw [e]; rfl) (fun _ _ _ _ _ _ us hl => match us, hl with | [_, _], _ => rfl) fun f cdv A outer s0 H E Z ds x hp hr => ?_
  obtain ⟨t, s, ok, hs, rfl, rfl⟩ := hp
  have nd := sc_nexts.nd
  refine hss_seq [.d t.d, .d (.int s), .d (.int (t.start.map D.int).length), .un, .un] (fun Φ' h => hs_set 2 nd (x_lenT W.b_len (XE.r (x_fld 1 W.cls W.na_start (x_var 0)))) h) ?_
  rw [List.length_map]
  have l1 := ok.sml
  have l2 := ok.pos
  have l3 := ok.tl
  exact hss_one (hs_ret (XL.xe (l_lc [("spot", 3)] (.one 3) (List.range t.n) (fun (k : Nat) => .int k) (fun q => t.tables.any fun m => decide (0 < ent m s q)) (fun (k : Nat) => .int k) nd (i_rangeN W.b_range (x_var 2) (by show t.n ≤ _; omega)) (blkOk_by (by kernel_rfl))
    (fun _ _ _ _ _ => g_name 3 nd) (fun q hq => ⟨_, rfl, fun _ _ _ _ _ => ts_one (t_val (x_anyM t.tables (fun m => decide (0 < ent m s q)) W.b_any
      (XE.r (XL.xe (l_map [("table", 4)] (.one 4) t.tables tabD _ nd (i_tup (x_fld 2 W.cls W.na_tables (x_var 0))) (blkOk_by (by kernel_rfl)) (fun _ _ _ _ _ => g_name 4 nd) (fun m hm => ⟨_, rfl, fun _ _ _ _ _ => x_gt (x_ent (ok.tabs m hm) hs (List.mem_range.mp hq) (x_var 4) (x_var 1) (x_var 3)) x_int⟩) (by omega)))))),
      fun _ _ _ _ _ _ => x_var 3⟩) (by rw [List.length_range]; omega))) rfl)
end
end Tly
end
section
set_option Elab.async false
set_option linter.all false
set_option maxRecDepth 100000
namespace Dl
open PySem PySem.Spec PyProof.Rows L2
section
variable {X : Cx} {F : Fm} {δ : List LV} {pos : Pos}
theorem o_L (i : Nat) {xs : List D} {n : Str} (hx : δ[i]? = some (.L xs) := by rfl) (hN : X.N[i]? = some n := by rfl) (hv : Vis X.env.scope n := by first | exact Or.inl rfl | exact Or.inr (Or.inl rfl) | exact Or.inr (Or.inr rfl)) (hd : (n == ("__debug__" : Str)) = false := by decide)
    (hcd : (n == ("__classdict__" : Str)) = false := by decide) : XR X F (.Name n pos) δ (.lst xs) := r_own (l := .L xs) i hx rfl hN hv hd hcd
theorem o_M (i : Nat) {ks : List Key} {xs : List D} {n : Str} (hx : δ[i]? = some (.M ks xs) := by rfl) (hN : X.N[i]? = some n := by rfl) (hv : Vis X.env.scope n := by first | exact Or.inl rfl | exact Or.inr (Or.inl rfl) | exact Or.inr (Or.inr rfl)) (hd : (n == ("__debug__" : Str)) = false := by decide)
    (hcd : (n == ("__classdict__" : Str)) = false := by decide) : XR X F (.Name n pos) δ (.dk ks xs) := r_own (l := .M ks xs) i hx rfl hN hv hd hcd
theorem hss_frL (i : Nat) {xs : List D} {rest : List Stmt} {Φ : DE} (h : HSs X F rest (δ.set i (.d (.lst xs))) Φ) (hi : δ[i]? = some (.L xs) := by rfl) : HSs X F rest δ Φ := hss_freeze i (l := .L xs) h hi rfl ⟨fun _ z => (by cases z), fun _ _ z => (by cases z), fun _ _ _ z => (by cases z)⟩
theorem hss_frM (i : Nat) {ks : List Key} {xs : List D} {rest : List Stmt} {Φ : DE} (h : HSs X F rest (δ.set i (.d (.dk ks xs))) Φ) (hi : δ[i]? = some (.M ks xs) := by rfl) : HSs X F rest δ Φ := hss_freeze i (l := .M ks xs) h hi rfl ⟨fun _ z => (by cases z), fun _ _ z => (by cases z), fun _ _ _ z => (by cases z)⟩
theorem hs_frL (i : Nat) {xs : List D} {st : Stmt} {Φ : DE} (h : HS X F st (δ.set i (.d (.lst xs))) Φ) (hi : δ[i]? = some (.L xs) := by rfl) : HS X F st δ Φ := hs_freeze i (l := .L xs) h hi rfl ⟨fun _ z => (by cases z), fun _ _ z => (by cases z), fun _ _ _ z => (by cases z)⟩
theorem hs_frM (i : Nat) {ks : List Key} {xs : List D} {st : Stmt} {Φ : DE} (h : HS X F st (δ.set i (.d (.dk ks xs))) Φ) (hi : δ[i]? = some (.M ks xs) := by rfl) : HS X F st δ Φ := hs_freeze i (l := .M ks xs) h hi rfl ⟨fun _ z => (by cases z), fun _ _ z => (by cases z), fun _ _ _ z => (by cases z)⟩
theorem XI.eq {tg e : Expr} {xs ys : List D} (h : XI X F tg e δ xs) (q : xs = ys) : XI X F tg e δ ys := q ▸ h
theorem hss_drop (i : Nat) {rest : List Stmt} {Φ : DE} (h : HSs X F rest (δ.set i .un) Φ) : HSs X F rest δ Φ := hss_weak _ h (Le.set_un δ i)
theorem hs_drop (i : Nat) {st : Stmt} {Φ : DE} (h : HS X F st (δ.set i .un) Φ) : HS X F st δ Φ := hs_weak _ h (Le.set_un δ i)
/-- a for loop over a list of plain things -/
theorem hs_forT {α : Type} {body : List Stmt} {tg iter : Expr} {t : Tgt} {Φ : DE} (xs : List α) (enc : α → D) (inv : Nat → List LV → Prop) (hi : XI X F tg iter δ (xs.map enc)) (hg : XG X F tg t) (h0 : inv 0 δ)
    (hs : ∀ i d x, xs[i]? = some x → inv i d → ∃ d', t.asg (enc x) d = some d' ∧ HSs X F body d' { nx := inv (i + 1), ct := inv (i + 1), bk := Φ.nx, rt := Φ.rt }) (hd : ∀ d, inv xs.length d → Φ.nx d)
    (hp : PassesOwn (model X.prog X.w) X.A X.env X.xe := by exact PassesOwn.never) (hc : X.calm = true := by rfl) (hf : ∀ x, foldedSetIterable iter X.env x = pure x := by intro _; rfl) : HS X F (.For tg iter body [] pos) δ Φ :=
  hs_for inv hi hg h0 (fun i d z hz hv => by
    rw [List.getElem?_map] at hz
    cases e : xs[i]? with
    | none => rw [e] at hz; cases hz
    | some x =>
      rw [e] at hz
      cases hz
      exact hs i d x e hv) (fun d hv => hd d (by rwa [List.length_map] at hv)) hp hc hf
theorem take_flat {α β : Type} {f : α → List β} {xs : List α} {i : Nat} {x : α} (h : xs[i]? = some x) : (xs.take (i + 1)).flatMap f = (xs.take i).flatMap f ++ f x := by
  rw [List.take_succ, h, List.flatMap_append]
  simp
theorem take_map {α β : Type} {f : α → β} {xs : List α} {i : Nat} {x : α} (h : xs[i]? = some x) : (xs.take (i + 1)).map f = (xs.take i).map f ++ [f x] := by
  rw [List.take_succ, h, List.map_append]
  rfl
theorem take_fold {α β : Type} {f : β → α → β} {b : β} {xs : List α} {i : Nat} {x : α} (h : xs[i]? = some x) : (xs.take (i + 1)).foldl f b = f ((xs.take i).foldl f b) x := by
  rw [List.take_succ, h, List.foldl_append]
  rfl
/-- a slot let go -/
theorem Le.drop (i : Nat) {δ : List LV} : Le (δ.set i .un) δ := Le.set_un δ i
end
end Dl
end
section
set_option Elab.async false
set_option linter.all false
set_option maxRecDepth 100000
set_option maxHeartbeats 2000000
namespace Tly
open PySem PySem.Spec PyProof.Rows L2 Dl
/-! ### what reached_from does -/
theorem nexts_nd {t : Tal} (p : Nat) : (nexts t p).Nodup := List.Pairwise.filter _ List.nodup_range
theorem nexts_lt {t : Tal} (p : Nat) : ∀ q ∈ nexts t p, q < t.n := fun q hq => List.mem_range.mp (List.mem_filter.mp hq).1
theorem nexts_len {t : Tal} (p : Nat) : (nexts t p).length ≤ t.n := by
  have := List.length_filter_le (fun q => t.tables.any fun m => decide (0 < ent m p q)) (List.range t.n)
  rw [List.length_range] at this
  exact this
def fsts (t : Tal) (S : List Nat) : List Nat := (List.range t.n).filter fun p => decide (p ∈ S)
theorem fsts_asc {t : Tal} {S : List Nat} : (fsts t S).Pairwise (· < ·) := List.Pairwise.filter _ List.pairwise_lt_range
theorem fsts_nd {t : Tal} {S : List Nat} : (fsts t S).Nodup := List.Pairwise.filter _ List.nodup_range
theorem fsts_lt {t : Tal} {S : List Nat} : ∀ q ∈ fsts t S, q < t.n := fun q hq => List.mem_range.mp (List.mem_filter.mp hq).1
theorem mem_fsts {t : Tal} {S : List Nat} (h : ∀ s ∈ S, s < t.n) {q : Nat} : q ∈ fsts t S ↔ q ∈ S := by
  unfold fsts
  rw [List.mem_filter, List.mem_range, decide_eq_true_eq]
  exact ⟨fun h => h.2, fun k => ⟨h q k, k⟩⟩
theorem fsts_ints {t : Tal} {S : List Nat} (h : ∀ s ∈ S, s < t.n) (k : Int) : k ∈ ((fsts t S).map fun (k : Nat) => (k : Int)) ↔ k ∈ (S.map fun (k : Nat) => (k : Int)) := by
  rw [List.mem_map, List.mem_map]
  exact ⟨fun ⟨a, x, e⟩ => ⟨a, (mem_fsts h).mp x, e⟩, fun ⟨a, x, e⟩ => ⟨a, (mem_fsts h).mpr x, e⟩⟩
theorem nd_len {n : Nat} {l : List Nat} (nd : l.Nodup) (lt : ∀ q ∈ l, q < n) : l.length ≤ n := by
  have := Gm.len_le_of_sub (u := List.range n) nd fun q hq => List.mem_range.mpr (lt q hq)
  rwa [List.length_range] at this
theorem reached_perm {t : Tal} {S l : List Nat} (nd : l.Nodup) (lt : ∀ q ∈ l, q < t.n) (e : l = Gm.clo (nexts t) (t.n + 1) (fsts t S) 0) : (reached t S).Perm l := by
  refine (List.perm_ext_iff_of_nodup (reached_asc.imp fun h => Nat.ne_of_lt h) nd).mpr fun q => ?_
  unfold reached
  rw [List.mem_filter, List.mem_range, decide_eq_true_eq]
  show _ ∧ q ∈ Gm.clo (nexts t) (t.n + 1) (fsts t S) 0 ↔ _
  rw [← e]
  exact ⟨fun h => h.2, fun h => ⟨lt q h, h⟩⟩
theorem reached_len {t : Tal} {S : List Nat} : (reached t S).length ≤ t.n := nd_len (reached_asc.imp fun h => Nat.ne_of_lt h) fun q hq => reached_lt hq
theorem useful_len {t : Tal} : (useful t).length ≤ t.n := nd_len (useful_asc.imp fun h => Nat.ne_of_lt h) fun q hq => useful_lt hq
section
variable {P : Program} {w : World} {K : PySem.W.Frag} {mg : Str → Option Value} {base : Heap}
def pre_reached (ds : List D) (x : D) : Prop := ∃ (t : Tal) (S : List Nat), t.Ok ∧ (∀ s ∈ S, s < t.n) ∧ S.length < 64 ∧ ds = [t.d, .lst (stD S)] ∧ x = .lst (stD (reached t S))
theorem sc_reached : FnScope ["tally", "states", "found", "at", "known", "spot"] ["tally", "states"] (defScope s_reached_from) := ⟨rfl, rfl, rfl, by decide +kernel, rfl, by decide +kernel, by decide +kernel⟩
theorem ok_reached (W : Wd K mg) : Fn P w K mg base "reached_from" 2 ["tally", "states"] (FSp (TA K) pre_reached) := by
  refine mk_fn (d := d_reached_from) W 19 14 rfl rfl rfl rfl rfl sc_reached (fun ds x ⟨t, s, _, _, _, e, _⟩ => by rw [e]; rfl) (fun _ _ _ _ _ _ us hl => match us, hl with | [_, _], _ => rfl) fun f cdv A outer s0 H E Z ds x hp hr => ?_
  obtain ⟨t, S, ok, hS, hl, rfl, rfl⟩ := hp
  have nd := sc_reached.nd
  have l1 := ok.sml
  refine hss_seq [.d t.d, .d (.lst (stD S)), .L (stD (fsts t S)), .d (.int ((0 : Nat) : Int)), .un, .un] (fun Φ' h => hs_par 2 3 nd (.L (XL.eq (l_sortedSet (ns := S.map fun (k : Nat) => (k : Int)) (ms := (fsts t S).map fun (k : Nat) => (k : Int)) W.b_sorted W.b_set (XE.r (XE.eq (x_var 1) (by rw [stD_ints]))) (by rw [List.length_map]; exact hl) (asc_ints fsts_asc) (fsts_ints hS)) (by rw [stD_ints]))) (.d x_int) h) ?_
  refine hss_cons (fun d => ∃ l : List Nat, l.Nodup ∧ (∀ q ∈ l, q < t.n) ∧ l = Gm.clo (nexts t) (t.n + 1) (fsts t S) 0 ∧ ∃ a : Int, d = [.d t.d, .d (.lst (stD S)), .L (stD l), .d (.int a), .un, .un])
    (hs_while (fun m d => ∃ (fs : List Nat) (at' : Nat), fs.Nodup ∧ (∀ q ∈ fs, q < t.n) ∧ at' + m = t.n + 1 ∧ at' ≤ fs.length ∧ Gm.clo (nexts t) m fs at' = Gm.clo (nexts t) (t.n + 1) (fsts t S) 0 ∧ d = [.d t.d, .d (.lst (stD S)), .L (stD fs), .d (.int (at' : Nat)), .un, .un]) (t.n + 1) ⟨fsts t S, 0, fsts_nd, fsts_lt, by omega, Nat.zero_le _, rfl, rfl⟩ fun m d ⟨fs, at', nf, lf, hm, hat, hc, hd⟩ => ?_) fun d ⟨l, nl, ll, el, a, hd⟩ => ?_
  · subst hd
    refine ⟨_, t_lt (x_var 3) (x_lenL W.b_len (o_L 2)), fun hq => ?_, fun hq => ?_⟩
    · have hlt : at' < fs.length := by
        have := of_decide_eq_true hq
        have e : (stD fs).length = fs.length := by unfold stD; rw [List.length_map]
        rw [e] at this
        omega
      have hfn := nd_len nf lf
      obtain ⟨m, rfl⟩ : ∃ k, m = k + 1 := ⟨m - 1, by omega⟩
      have hp : fs[at']? = some fs[at'] := List.getElem?_eq_getElem hlt
      have hpn := lf _ (List.getElem_mem hlt)
      refine hss_seq [.d t.d, .d (.lst (stD S)), .L (stD fs), .d (.int (at' : Nat)), .L (stD fs), .un] (fun Φ' h => hs_setL 4 nd (l_listL W.b_list (o_L 2)) h) ?_
      refine hss_frL 4 ?_
      have hz : (nexts t fs[at']).length ≤ 9 := Nat.le_trans (nexts_len _) l1
      refine hss_seq [.d t.d, .d (.lst (stD S)), .L (stD (fs ++ (nexts t fs[at']).filter fun q => !decide (q ∈ fs))), .d (.int (at' : Nat)), .d (.lst (stD fs)), .un] (fun Φ' h => hs_extend 2 (ys := stD ((nexts t fs[at']).filter fun q => !decide (q ∈ fs))) (XL.xe (XL.eq (l_lc [("spot", 5)] (.one 5) (nexts t fs[at']) (fun (k : Nat) => .int k) (fun q => !decide (q ∈ fs)) (fun (k : Nat) => .int k) nd
        (i_list (x_call (ok_nexts W) (hr.mono (by omega)) (a_cons (x_var 0) (a_cons (x_ixL (XE.r (x_var 4)) (x_var 3) (atI_nat (by unfold stD; rw [List.getElem?_map, hp]; rfl))) a_nil)) ⟨t, fs[at'], ok, hpn, rfl, rfl⟩)) (blkOk_by (by kernel_rfl))
        (fun _ _ _ _ _ => g_name 5 nd) (fun q hq => ⟨_, rfl, fun _ _ _ _ _ => ts_one (XT.eq (t_ninL (ns := fs.map fun (k : Nat) => (k : Int)) (x_var 5) (XE.r (XE.eq (x_var 4) (by rw [stD_ints])))) (congrArg not (decide_eq_decide.mpr (mem_ints (l := fs) (k := q))))), fun _ _ _ _ _ _ => x_var 5⟩) (by omega)) rfl)) rfl (by
          unfold stD
          rw [List.length_map, List.length_map]
          have := List.length_filter_le (fun q => !decide (q ∈ fs)) (nexts t fs[at'])
          omega) (by
          unfold stD at *
          rw [List.map_append] at h
          exact h)) ?_
      refine hss_weak [.d t.d, .d (.lst (stD S)), .L (stD (fs ++ (nexts t fs[at']).filter fun q => !decide (q ∈ fs))), .d (.int (at' : Nat)), .un, .un] (hss_one (hs_aug 3 nd rfl x_int ?_)) ⟨rfl, fun i l e => ?_⟩
      · refine ⟨m, by omega, _, at' + 1, ?_, ?_, by omega, ?_, ?_, rfl⟩
        · rw [List.nodup_append]
          refine ⟨nf, (nexts_nd _).filter _, fun a ha b hb z => ?_⟩
          subst z
          have := (List.mem_filter.mp hb).2
          simp [ha] at this
        · intro q hq
          rcases List.mem_append.mp hq with z | z
          · exact lf q z
          · exact nexts_lt _ q (List.mem_filter.mp z).1
        · rw [List.length_append]; omega
        · rw [← hc]
          show _ = match fs[at']? with | none => fs | some p => _
          rw [hp]
      · match i, e with
        | 0, e => exact .inr e
        | 1, e => exact .inr e
        | 2, e => exact .inr e
        | 3, e => exact .inr e
        | 4, e => exact .inl (by simpa using e.symm)
        | 5, e => exact .inr e
        | _ + 6, e => simp at e
    · have hge : at' = fs.length := by
        have := of_decide_eq_false hq
        have e : (stD fs).length = fs.length := by unfold stD; rw [List.length_map]
        rw [e] at this
        omega
      refine ⟨fs, nf, lf, ?_, _, rfl⟩
      rw [← hc]
      cases m with
      | zero => rfl
      | succ m =>
        show fs = match fs[at']? with | none => fs | some p => _
        rw [List.getElem?_eq_none (by omega)]
  · subst hd
    exact hss_one (hs_ret (XE.eq (XL.xe (l_sorted (ns := l.map fun (k : Nat) => (k : Int)) (ms := (reached t S).map fun (k : Nat) => (k : Int)) W.b_sorted (by rw [← stD_ints]; exact o_L 2) ((reached_perm nl ll el).map _) ((asc_ints reached_asc).imp Int.le_of_lt))) (by rw [← stD_ints])) rfl)
end
end Tly
end
section
set_option Elab.async false
set_option linter.all false
set_option maxRecDepth 100000
set_option maxHeartbeats 2000000
namespace Tly
open PySem PySem.Spec PyProof.Rows L2 Dl
theorem row_at {r : Row} {i : Nat} (h : i < r.length) : atI (r.map D.int) (i : Int) = some (.int (r.getD i 0)) := atI_nat (by rw [List.getElem?_map, row_get h]; rfl)
theorem stD_at {l : List Nat} {i q : Nat} (h : l[i]? = some q) : atI (stD l) (i : Int) = some (.int q) := atI_nat (by unfold stD; rw [List.getElem?_map, h]; rfl)
theorem mkS_list {l : List Nat} : (mkS l).cps.toList = l := by show l.toArray.toList = l; simp
theorem mkS_size {l : List Nat} : (mkS l).cps.size = l.length := by show l.toArray.size = _; simp
theorem signs_mkS {l : List Nat} : Dl.signs (mkS l) = l.map fun c => D.str (sg c) := by unfold Dl.signs; rw [mkS_list]
def stepD (z : Nat × Nat × Int) : D := .tup [.str (sg z.1), .int z.2.1, .int z.2.2]
theorem zip_ds {t : Tal} : zipD (Dl.signs (mkS t.dg)) (t.tables.map tabD) = (t.dg.zip t.tables).map fun z => D.tup [.str (sg z.1), tabD z.2] := by
  rw [signs_mkS]
  unfold zipD
  rw [List.zip_map, List.map_map]
  rfl
theorem enum_row {r : Row} : enumD (r.map D.int) = r.zipIdx.map fun z => D.tup [.int (z.2 : Nat), .int z.1] := by
  unfold enumD
  rw [List.zipIdx_map, List.map_map]
  rfl
section
variable {P : Program} {w : World} {K : PySem.W.Frag} {mg : Str → Option Value} {base : Heap}
variable {X : Cx} {δ : List LV} {a : Expr} {p1 p2 p3 : Pos}
/-- [state for state in range(n) if row[state] > 0] -/
def pre_useful (ds : List D) (x : D) : Prop := ∃ (t : Tal), t.Ok ∧ ds = [t.d] ∧ x = .tup (stD (useful t))
theorem sc_useful : FnScope ["tally", "size", "met", "goals", "state", "goal"] ["tally"] (defScope s_useful_states) := ⟨rfl, rfl, rfl, by decide +kernel, rfl, by decide +kernel, by decide +kernel⟩
theorem starts_lt {t : Tal} : ∀ s ∈ starts t, s < t.n := fun s hs => (mem_starts.mp hs).1
theorem goals_lt {t : Tal} : ∀ s ∈ goals t, s < t.n := fun s hs => (mem_goals.mp hs).1
theorem flt_len {n : Nat} {f : Nat → Bool} : ((List.range n).filter f).length ≤ n := by
  have := List.length_filter_le f (List.range n)
  rwa [List.length_range] at this
theorem ok_useful (W : Wd K mg) : Fn P w K mg base "useful_states" 3 ["tally"] (FSp (TA K) pre_useful) := by
  refine mk_fn (d := d_useful_states) W 20 15 rfl rfl rfl rfl rfl sc_useful (fun ds x ⟨t, _, e, _⟩ => by rw [e]; rfl) (fun _ _ _ _ _ _ us hl => match us, hl with | [_], _ => rfl) fun f cdv A outer s0 H E Z ds x hp hr => ?_
  obtain ⟨t, ok, rfl, rfl⟩ := hp
  have nd := sc_useful.nd
  have l1 := ok.sml
  have ls : (starts t).length ≤ t.n := flt_len
  refine hss_seq [.d t.d, .d (.int (t.start.map D.int).length), .un, .un, .un, .un] (fun Φ' h => hs_set 1 nd (x_lenT W.b_len (XE.r (x_fld 1 W.cls W.na_start (x_var 0)))) h) ?_
  rw [List.length_map]
  refine hss_seq [.d t.d, .d (.int t.n), .d (.lst (stD (reached t (starts t)))), .un, .un, .un] (fun Φ' h => hs_set 2 nd (x_call (ok_reached W) (hr.mono (by omega)) (a_cons (x_var 0) (a_cons (XL.xe (l_lc [("state", 4)] (.one 4) (List.range t.n) (fun (k : Nat) => .int k) (fun p => decide (0 < t.start.getD p 0)) (fun (k : Nat) => .int k) nd (i_rangeN W.b_range (x_var 1) (by omega)) (blkOk_by (by kernel_rfl))
      (fun _ _ _ _ _ => g_name 4 nd) (fun q hq => ⟨_, rfl, fun _ _ _ _ _ => ts_one (t_gt (x_ixT (XE.r (x_fld 1 W.cls W.na_start (x_var 0))) (x_var 4) (row_at (List.mem_range.mp hq))) x_int), fun _ _ _ _ _ _ => x_var 4⟩) (by rw [List.length_range]; omega))) a_nil)) ⟨t, starts t, ok, starts_lt, by omega, rfl, rfl⟩) h) ?_
  refine hss_seq [.d t.d, .d (.int t.n), .d (.lst (stD (reached t (starts t)))), .L (stD (goals t)), .un, .un] (fun Φ' h => hs_setL 3 nd (l_lc [("state", 4)] (.one 4) (List.range t.n) (fun (k : Nat) => .int k) (fun p => decide (0 < t.ends.getD p 0)) (fun (k : Nat) => .int k) nd (i_rangeN W.b_range (x_var 1) (by omega)) (blkOk_by (by kernel_rfl))
      (fun _ _ _ _ _ => g_name 4 nd) (fun q hq => ⟨_, rfl, fun _ _ _ _ _ => ts_one (t_gt (x_ixT (XE.r (x_fld 3 W.cls W.na_ends (x_var 0))) (x_var 4) (row_at (by rw [ok.ends]; exact List.mem_range.mp hq))) x_int), fun _ _ _ _ _ _ => x_var 4⟩) (by rw [List.length_range]; omega)) h) ?_
  refine hss_frL 3 ?_
  have lm : (reached t (starts t)).length ≤ t.n := reached_len
  have lg : (goals t).length ≤ t.n := flt_len
  refine hss_one (hs_ret (x_tupL W.b_tuple (XE.r (XL.xe (l_lc [("state", 4)] (.one 4) (reached t (starts t)) (fun (k : Nat) => .int k) (fun s => (goals t).any fun g => decide (g ∈ reached t [s])) (fun (k : Nat) => .int k) nd (i_list (x_var 2)) (blkOk_by (by kernel_rfl))
    (fun _ _ _ _ _ => g_name 4 nd) (fun q hq => ⟨_, rfl, fun _ _ _ _ _ => ts_one (t_val (x_anyM (goals t) (fun g => decide (g ∈ reached t [q])) W.b_any
      (XE.r (XL.xe (l_map [("goal", 5)] (.one 5) (goals t) (fun (k : Nat) => .int k) _ nd (i_list (x_var 3)) (blkOk_by (by kernel_rfl)) (fun _ _ _ _ _ => g_name 5 nd) (fun g hg => ⟨_, rfl, fun _ _ _ _ _ => XE.eq (x_inL (ns := (reached t [q]).map fun (k : Nat) => (k : Int)) (x_var 5) (XE.r (XE.eq (x_call (ok_reached W) (hr.mono (by omega)) (a_cons (x_var 0) (a_cons (XL.xe (l_lst (a_cons (x_var 4) a_nil))) a_nil)) ⟨t, [q], ok, fun s hs => by rw [List.mem_singleton.mp hs]; exact reached_lt hq, by simp, rfl, rfl⟩) (by rw [stD_ints])))) (congrArg D.bl (decide_eq_decide.mpr mem_ints))⟩) (by omega)))))),
      fun _ _ _ _ _ _ => x_var 4⟩) (by omega))))) rfl)
end
end Tly
end
section
set_option Elab.async false
set_option linter.all false
set_option maxRecDepth 100000
set_option maxHeartbeats 2000000
namespace Tly
open PySem PySem.Spec PyProof.Rows L2 Dl
theorem lenI {α : Type} {f : α → D} {l : List α} : (((l.map f).length : Nat) : Int) = ((l.length : Nat) : Int) := by rw [List.length_map]
theorem steps_len {t : Tal} (h : t.Ok) {s : Nat} (hs : s < t.n) : (stepsOf t s).length ≤ 27 := by
  unfold stepsOf
  have : ∀ l : List (Nat × Tab), (∀ z ∈ l, SqT' t.n z.2) → (l.flatMap fun z => (((z.2.getD s []).zipIdx).filter fun y => decide (0 < y.1)).map fun y => (z.1, y.2, y.1)).length ≤ l.length * t.n := by
    intro l
    induction l with
    | nil => intro _; simp
    | cons z l ih =>
      intro hl
      have i := ih fun y hy => hl y (List.mem_cons_of_mem _ hy)
      rw [List.flatMap_cons, List.length_append, List.length_map, List.length_cons, Nat.succ_mul]
      have := List.length_filter_le (fun y : Int × Nat => decide (0 < y.1)) ((z.2.getD s []).zipIdx)
      rw [List.length_zipIdx] at this
      obtain ⟨r, _, e2, e3⟩ := ent_row (hl z List.mem_cons_self) hs
      rw [e2, e3] at this
      rw [e2]
      omega
  have := this (t.dg.zip t.tables) fun z hz => h.tabs _ (List.of_mem_zip hz).2
  have l1 : (t.dg.zip t.tables).length ≤ 3 := by
    rw [List.length_zip]
    have := h.dlen
    omega
  have l2 := h.sml
  have : (t.dg.zip t.tables).length * t.n ≤ 3 * 9 := Nat.mul_le_mul l1 l2
  omega
section
variable {P : Program} {w : World} {K : PySem.W.Frag} {mg : Str → Option Value} {base : Heap}
def pre_starts_of (ds : List D) (x : D) : Prop := ∃ (t : Tal), t.Ok ∧ ds = [t.d] ∧ x = .lst (stD (starts t))
theorem sc_starts_of : FnScope ["tally", "state"] ["tally"] (defScope s_starts_of) := ⟨rfl, rfl, rfl, by decide +kernel, rfl, by decide +kernel, by decide +kernel⟩
theorem ok_starts_of (W : Wd K mg) : Fn P w K mg base "starts_of" 1 ["tally"] (FSp (TA K) pre_starts_of) := by
  refine mk_fn (d := d_starts_of) W 40 35 rfl rfl rfl rfl rfl sc_starts_of (fun ds x h => by obtain ⟨t, ok, rfl, rfl⟩ := h; rfl) (fun _ _ _ _ _ _ us hl => match us, hl with | [_], _ => rfl) fun f cdv A outer s0 H E Z ds x hp hr => ?_
  obtain ⟨t, ok, rfl, rfl⟩ := hp
  have nd := sc_starts_of.nd
  have l1 := ok.sml
  exact hss_one (hs_ret (XL.xe (l_lc [("state", 1)] (.one 1) (List.range t.n) (fun (k : Nat) => .int k) (fun p => decide (0 < t.start.getD p 0)) (fun (k : Nat) => .int k) nd (i_rangeN W.b_range (XE.eq (x_lenT W.b_len (XE.r (x_fld 1 W.cls W.na_start (x_var 0)))) (congrArg D.int lenI)) (by omega)) (blkOk_by (by kernel_rfl))
      (fun _ _ _ _ _ => g_name 1 nd) (fun q hq => ⟨_, rfl, fun _ _ _ _ _ => ts_one (t_gt (x_ixT (XE.r (x_fld 1 W.cls W.na_start (x_var 0))) (x_var 1) (row_at (List.mem_range.mp hq))) x_int), fun _ _ _ _ _ _ => x_var 1⟩) (by rw [List.length_range]; omega))) rfl)
def pre_goals_of (ds : List D) (x : D) : Prop := ∃ (t : Tal), t.Ok ∧ ds = [t.d] ∧ x = .lst (stD (goals t))
theorem sc_goals_of : FnScope ["tally", "state"] ["tally"] (defScope s_goals_of) := ⟨rfl, rfl, rfl, by decide +kernel, rfl, by decide +kernel, by decide +kernel⟩
theorem ok_goals_of (W : Wd K mg) : Fn P w K mg base "goals_of" 1 ["tally"] (FSp (TA K) pre_goals_of) := by
  refine mk_fn (d := d_goals_of) W 41 36 rfl rfl rfl rfl rfl sc_goals_of (fun ds x h => by obtain ⟨t, ok, rfl, rfl⟩ := h; rfl) (fun _ _ _ _ _ _ us hl => match us, hl with | [_], _ => rfl) fun f cdv A outer s0 H E Z ds x hp hr => ?_
  obtain ⟨t, ok, rfl, rfl⟩ := hp
  have nd := sc_goals_of.nd
  have l1 := ok.sml
  exact hss_one (hs_ret (XL.xe (l_lc [("state", 1)] (.one 1) (List.range t.n) (fun (k : Nat) => .int k) (fun p => decide (0 < t.ends.getD p 0)) (fun (k : Nat) => .int k) nd (i_rangeN W.b_range (XE.eq (x_lenT W.b_len (XE.r (x_fld 1 W.cls W.na_start (x_var 0)))) (congrArg D.int lenI)) (by omega)) (blkOk_by (by kernel_rfl))
      (fun _ _ _ _ _ => g_name 1 nd) (fun q hq => ⟨_, rfl, fun _ _ _ _ _ => ts_one (t_gt (x_ixT (XE.r (x_fld 3 W.cls W.na_ends (x_var 0))) (x_var 1) (row_at (by rw [ok.ends]; exact List.mem_range.mp hq))) x_int), fun _ _ _ _ _ _ => x_var 1⟩) (by rw [List.length_range]; omega))) rfl)
def pre_comes_back (ds : List D) (x : D) : Prop := ∃ (t : Tal) (s : Nat), t.Ok ∧ s < t.n ∧ ds = [t.d, .int s] ∧ x = .bl (comesBack t s)
theorem x_comes {X : Cx} {F : Fm} {δ : List LV} {a b b2 : Expr} {p1 p2 p3 p4 pos : Pos} {t : Tal} {s : Nat} (R : Fn X.prog X.w X.K X.mg X.base "reached_from" 2 ["tally", "states"] (FSp F.T pre_reached)) (N : Fn X.prog X.w X.K X.mg X.base "nexts" 1 ["tally", "state"] (FSp F.T pre_nexts))
    (hr : Room 2 X.A) (ok : t.Ok) (hs : s < t.n) (ha : XE X F a δ t.d) (hb : XE X F b δ (.int s)) (hb2 : XE X F b2 δ (.int s)) (h1 : starEach [a, .Call (.Name "nexts" p1) [a, b2] [] p2] X.env = (false, eval a X.env) :: starEach [.Call (.Name "nexts" p1) [a, b2] [] p2] X.env := by rfl) : True := trivial
theorem sc_comes_back : FnScope ["tally", "state"] ["tally", "state"] (defScope s_comes_back) := ⟨rfl, rfl, rfl, by decide +kernel, rfl, by decide +kernel, by decide +kernel⟩
theorem ok_comes_back (W : Wd K mg) : Fn P w K mg base "comes_back" 3 ["tally", "state"] (FSp (TA K) pre_comes_back) := by
  refine mk_fn (d := d_comes_back) W 24 19 rfl rfl rfl rfl rfl sc_comes_back (fun ds x h => by obtain ⟨t, s, ok, hs, rfl, rfl⟩ := h; rfl) (fun _ _ _ _ _ _ us hl => match us, hl with | [_, _], _ => rfl) fun f cdv A outer s0 H E Z ds x hp hr => ?_
  obtain ⟨t, s, ok, hs, rfl, rfl⟩ := hp
  have nd := sc_comes_back.nd
  have l1 := ok.sml
  have l2 := nexts_len (t := t) s
  exact hss_one (hs_ret (XE.eq (x_inL (ns := (reached t (nexts t s)).map fun (k : Nat) => (k : Int)) (x_var 1) (XE.r (XE.eq (x_call (ok_reached W) (hr.mono (by omega)) (a_cons (x_var 0) (a_cons (x_call (ok_nexts W) (hr.mono (by omega)) (a_cons (x_var 0) (a_cons (x_var 1) a_nil)) ⟨t, s, ok, hs, rfl, rfl⟩) a_nil)) ⟨t, nexts t s, ok, nexts_lt s, by omega, rfl, rfl⟩) (by rw [stD_ints])))) (congrArg D.bl (decide_eq_decide.mpr mem_ints))) rfl)
def pre_steps_of (ds : List D) (x : D) : Prop := ∃ (t : Tal) (s : Nat), t.Ok ∧ s < t.n ∧ ds = [t.d, .int s] ∧ x = .lst ((stepsOf t s).map stepD)
theorem sc_steps_of : FnScope ["tally", "state", "found", "digit", "table", "spot", "number"] ["tally", "state"] (defScope s_steps_of) := ⟨rfl, rfl, rfl, by decide +kernel, rfl, by decide +kernel, by decide +kernel⟩
theorem ok_steps_of (W : Wd K mg) : Fn P w K mg base "steps_of" 1 ["tally", "state"] (FSp (TA K) pre_steps_of) := by
  refine mk_fn (d := d_steps_of) W 21 16 rfl rfl rfl rfl rfl sc_steps_of (fun ds x h => by obtain ⟨t, s, ok, hs, rfl, rfl⟩ := h; rfl) (fun _ _ _ _ _ _ us hl => match us, hl with | [_, _], _ => rfl) fun f cdv A outer s0 H E Z ds x hp hr => ?_
  obtain ⟨t, s, ok, hs, rfl, rfl⟩ := hp
  have nd := sc_steps_of.nd
  have l1 := ok.sml
  have l2 := ok.dlen
  have l3 := ok.tl
  let st := fun z : Nat × Tab => (((z.2.getD s []).zipIdx).filter fun y => decide (0 < y.1)).map fun y => (z.1, y.2, y.1)
  refine hss_seq [.d t.d, .d (.int s), .L [], .un, .un, .un, .un] (fun Φ' h => hs_setL 2 nd (l_lst a_nil) h) ?_
  refine hss_cons (fun d => ∃ a b : LV, d = [.d t.d, .d (.int s), .L ((stepsOf t s).map stepD), a, b, .un, .un])
    (hs_forT (t := .tup [3, 4]) (t.dg.zip t.tables) (fun z => D.tup [.str (sg z.1), tabD z.2]) (fun i d => ∃ a b : LV, d = [.d t.d, .d (.int s), .L ((((t.dg.zip t.tables).take i).flatMap st).map stepD), a, b, .un, .un])
      (XI.eq (i_zipST W.b_zip (x_fld 0 W.cls W.na_digits (x_var 0)) (x_fld 2 W.cls W.na_tables (x_var 0)) (by rw [mkS_size, List.length_map, ok.len])) zip_ds)
      (g_tup (gs_cons 3 (gs_cons 4 gs_nil nd) nd)) ⟨_, _, rfl⟩ (fun i d z hz ⟨a, b, hd⟩ => ?_) (fun d ⟨a, b, hd⟩ => ⟨a, b, by rw [hd, List.take_length]; rfl⟩)) fun d ⟨a, b, hd⟩ => ?_
  · subst hd
    refine ⟨_, rfl, ?_⟩
    obtain ⟨c, m⟩ := z
    obtain ⟨hc, rfl⟩ := (mem_zip ok).mp (List.mem_of_getElem? hz)
    have sq := tab_sq ok hc
    obtain ⟨r, e1, e2, e3⟩ := ent_row sq hs
    have hp : (t.dg.zip t.tables).take i = (t.dg.zip t.tables).take i := rfl
    have pl : (((t.dg.zip t.tables).take i).flatMap st).length ≤ 27 := by
      have h1 := steps_len ok hs
      have e : stepsOf t s = (((t.dg.zip t.tables).take i).flatMap st) ++ ((t.dg.zip t.tables).drop i).flatMap st := by
        rw [← List.flatMap_append, List.take_append_drop]; rfl
      rw [e, List.length_append] at h1
      omega
    refine hss_one (hs_extend 2 (ys := (st (c, tab t c)).map stepD) (XL.xe (XL.eq (l_lc [("spot", 5), ("number", 6)] (.tup [5, 6]) r.zipIdx (fun z => D.tup [.int (z.2 : Nat), .int z.1]) (fun y => decide (0 < y.1)) (fun y => D.tup [.str (sg c), .int (y.2 : Nat), .int y.1]) nd
      (XI.eq (i_enumT W.b_enumerate (x_ixT (XE.r (x_var 4)) (x_var 1) (atI_nat (by rw [List.getElem?_map, e1]; rfl)))) enum_row) (blkOk_by (by kernel_rfl))
      (fun _ _ _ _ _ => g_tup (gs_cons 5 (gs_cons 6 gs_nil nd) nd)) (fun y hy => ⟨_, rfl, fun _ _ _ _ _ => ts_one (t_gt (x_var 6) x_int), fun _ _ _ _ _ _ => x_tup (a_cons (x_var 3) (a_cons (x_var 5) (a_cons (x_var 6) a_nil)))⟩) (by rw [List.length_zipIdx]; omega)) (by
        show _ = List.map stepD (List.map (fun y => (c, y.2, y.1)) (List.filter (fun y => decide (0 < y.1)) ((tab t c).getD s []).zipIdx))
        rw [e2, List.map_map]; rfl))) rfl (by
          rw [List.length_map, List.length_map, List.length_map]
          have := List.length_filter_le (fun y : Int × Nat => decide (0 < y.1)) (((tab t c).getD s []).zipIdx)
          rw [List.length_zipIdx, e2, e3] at this
          rw [e2]
          omega) ⟨_, _, by rw [take_flat hz, List.map_append]; rfl⟩)
  · subst hd
    exact hss_frL 2 (hss_one (hs_ret (x_var 2) rfl))
end
end Tly
end
section
set_option Elab.async false
set_option linter.all false
set_option maxRecDepth 100000
set_option maxHeartbeats 2000000
namespace Tly
open PySem PySem.Spec PyProof.Rows L2 Dl
theorem take_filt {α : Type} {p : α → Bool} {xs : List α} {i : Nat} {x : α} (h : xs[i]? = some x) : (xs.take (i + 1)).filter p = (xs.take i).filter p ++ (if p x then [x] else []) := by
  rw [List.take_succ, h, List.filter_append]
  show _ ++ List.filter p [x] = _
  rw [List.filter_cons]
  rfl
theorem cmul_of {i j : Int} (h0 : 0 ≤ j) (h1 : j ≤ 1000000) : CMul i j := Or.inr ⟨by omega, by omega⟩
theorem vstr_eq {c d : Nat} : decide (V.str (sg c) = V.str (sg d)) = decide (c = d) := decide_eq_decide.mpr ⟨fun h => by injection h with h; injection h with h; simpa using h, fun h => by rw [h]⟩
theorem vint_eq {i j : Int} : decide (V.int i = V.int j) = decide (i = j) := decide_eq_decide.mpr ⟨fun h => by injection h, fun h => by rw [h]⟩
theorem vnat_eq {i j : Nat} : decide (V.int (i : Int) = V.int (j : Int)) = decide (i = j) := by rw [vint_eq]; exact decide_eq_decide.mpr ⟨fun h => Int.ofNat.inj h, fun h => by rw [h]⟩
def pairD (z : Nat × Nat × Nat × Int) : D := .tup [.str (sg z.1), .int z.2.1, .int z.2.2.1, .int z.2.2.2]
theorem pair_len {t : Tal} (h : t.Ok) {a b : Nat} (ha : a < t.n) (hb : b < t.n) : (pairSteps t a b).length ≤ 729 := by
  have l1 := steps_len h ha
  have l2 := steps_len h hb
  unfold pairSteps
  have : ∀ l : List (Nat × Nat × Int), (l.flatMap fun z => ((stepsOf t b).filter fun y => decide (y.1 = z.1)).map fun y => (z.1, z.2.1, y.2.1, z.2.2 * y.2.2)).length ≤ l.length * 27 := by
    intro l
    induction l with
    | nil => simp
    | cons z l ih =>
      rw [List.flatMap_cons, List.length_append, List.length_map, List.length_cons, Nat.succ_mul]
      have := List.length_filter_le (fun y : Nat × Nat × Int => decide (y.1 = z.1)) (stepsOf t b)
      omega
  have := this (stepsOf t a)
  have : (stepsOf t a).length * 27 ≤ 27 * 27 := Nat.mul_le_mul_right _ l1
  omega
section
variable {P : Program} {w : World} {K : PySem.W.Frag} {mg : Str → Option Value} {base : Heap}
def pre_pair_steps (ds : List D) (x : D) : Prop := ∃ (t : Tal) (p q : Nat), t.Ok ∧ p < t.n ∧ q < t.n ∧ ds = [t.d, .int p, .int q] ∧ x = .lst ((pairSteps t p q).map pairD)
theorem sc_pair_steps : FnScope ["tally", "one", "other", "found", "digit", "spot", "number", "sign", "place", "more"] ["tally", "one", "other"] (defScope s_pair_steps) := ⟨rfl, rfl, rfl, by decide +kernel, rfl, by decide +kernel, by decide +kernel⟩
theorem ok_pair_steps (W : Wd K mg) : Fn P w K mg base "pair_steps" 2 ["tally", "one", "other"] (FSp (TA K) pre_pair_steps) := by
  refine mk_fn (d := d_pair_steps) W 22 17 rfl rfl rfl rfl rfl sc_pair_steps (fun ds x h => by obtain ⟨t, p, q, ok, hp1, hq1, rfl, rfl⟩ := h; rfl) (fun _ _ _ _ _ _ us hl => match us, hl with | [_, _, _], _ => rfl) fun f cdv A outer s0 H E Z ds x hp hr => ?_
  obtain ⟨t, p, q, ok, hp1, hq1, rfl, rfl⟩ := hp
  have nd := sc_pair_steps.nd
  have l1 := steps_len ok hp1
  have l2 := steps_len ok hq1
  have l3 := pair_len ok hp1 hq1
  let st := fun z : Nat × Nat × Int => ((stepsOf t q).filter fun y => decide (y.1 = z.1)).map fun y => (z.1, z.2.1, y.2.1, z.2.2 * y.2.2)
  refine hss_seq [.d t.d, .d (.int p), .d (.int q), .L [], .un, .un, .un, .un, .un, .un] (fun Φ' h => hs_setL 3 nd (l_lst a_nil) h) ?_
  refine hss_cons (fun d => ∃ a1 a2 a3 a4 a5 a6 : LV, d = [.d t.d, .d (.int p), .d (.int q), .L ((pairSteps t p q).map pairD), a1, a2, a3, a4, a5, a6])
    (hs_forT (t := .tup [4, 5, 6]) (stepsOf t p) stepD (fun i d => ∃ a1 a2 a3 a4 a5 a6 : LV, d = [.d t.d, .d (.int p), .d (.int q), .L ((((stepsOf t p).take i).flatMap st).map pairD), a1, a2, a3, a4, a5, a6])
      (i_list (x_call (ok_steps_of W) (hr.mono (by omega)) (a_cons (x_var 0) (a_cons (x_var 1) a_nil)) ⟨t, p, ok, hp1, rfl, rfl⟩))
      (g_tup (gs_cons 4 (gs_cons 5 (gs_cons 6 gs_nil nd) nd) nd)) ⟨_, _, _, _, _, _, rfl⟩ (fun i d z hz ⟨a1, a2, a3, a4, a5, a6, hd⟩ => ?_) (fun d ⟨a1, a2, a3, a4, a5, a6, hd⟩ => ⟨a1, a2, a3, a4, a5, a6, by rw [hd, List.take_length]; rfl⟩)) fun d ⟨a1, a2, a3, a4, a5, a6, hd⟩ => ?_
  · subst hd
    refine ⟨_, rfl, ?_⟩
    obtain ⟨c, u, n⟩ := z
    have pl : (((stepsOf t p).take i).flatMap st).length ≤ 729 := by
      have e : pairSteps t p q = (((stepsOf t p).take i).flatMap st) ++ ((stepsOf t p).drop i).flatMap st := by
        rw [← List.flatMap_append, List.take_append_drop]; rfl
      rw [e, List.length_append] at l3
      omega
    refine hss_one (hs_forT (t := .tup [7, 8, 9]) (stepsOf t q) stepD (fun j d => ∃ b1 b2 b3 : LV, d = [.d t.d, .d (.int p), .d (.int q), .L ((((stepsOf t p).take i).flatMap st ++ ((((stepsOf t q).take j).filter fun y => decide (y.1 = c)).map fun y => (c, u, y.2.1, n * y.2.2))).map pairD), .d (.str (sg c)), .d (.int u), .d (.int n), b1, b2, b3])
      (i_list (x_call (ok_steps_of W) (hr.mono (by omega)) (a_cons (x_var 0) (a_cons (x_var 2) a_nil)) ⟨t, q, ok, hq1, rfl, rfl⟩))
      (g_tup (gs_cons 7 (gs_cons 8 (gs_cons 9 gs_nil nd) nd) nd)) ⟨_, _, _, by simp [List.append_nil]; rfl⟩ (fun j d y hy ⟨b1, b2, b3, hd⟩ => ?_) (fun d ⟨b1, b2, b3, hd⟩ => ⟨.d (.str (sg c)), .d (.int u), .d (.int n), b1, b2, b3, hd.trans (by rw [List.take_length, take_flat hz])⟩))
    subst hd
    refine ⟨_, rfl, ?_⟩
    obtain ⟨c2, v, m⟩ := y
    obtain ⟨hc2, hv, em, hm⟩ := (mem_steps ok hq1).mp (List.mem_of_getElem? hy)
    refine hss_one (hs_if (t_eq (x_var 7) (x_var 4)) (fun e => ?_) fun e => ?_)
    · have e : c2 = c := by rw [vstr_eq] at e; exact of_decide_eq_true e
      refine hss_one (hs_append 3 (x_tup (a_cons (x_var 4) (a_cons (x_var 5) (a_cons (x_var 8) (a_cons (x_mul (x_var 6) (x_var 9) (cmul_of (show 0 ≤ m by omega) (show m ≤ 1000000 by have := ent_bd ok hc2 hq1 hv; omega))) a_nil))))) rfl ?_ ⟨.d (.str (sg c2)), .d (.int v), .d (.int m), ?_⟩)
      · rw [List.length_map, List.length_append, List.length_map]
        have h1 := List.length_filter_le (fun y : Nat × Nat × Int => decide (y.1 = c)) ((stepsOf t q).take j)
        rw [List.length_take] at h1
        omega
      · have ea : ((((stepsOf t p).take i).flatMap st ++ ((((stepsOf t q).take (j + 1)).filter fun y => decide (y.1 = c)).map fun y => (c, u, y.2.1, n * y.2.2))).map pairD) = ((((stepsOf t p).take i).flatMap st ++ ((((stepsOf t q).take j).filter fun y => decide (y.1 = c)).map fun y => (c, u, y.2.1, n * y.2.2))).map pairD) ++ [pairD (c, u, v, n * m)] := by
          rw [take_filt hy, if_pos (by simpa using e)]
          simp only [List.map_append, List.append_assoc]
          rfl
        rw [ea]
        rfl
    · have e : c2 ≠ c := by rw [vstr_eq] at e; exact of_decide_eq_false e
      exact hss_nil ⟨.d (.str (sg c2)), .d (.int v), .d (.int m), by rw [take_filt hy, if_neg (by simpa using e), List.append_nil]; rfl⟩
  · subst hd
    exact hss_frL 3 (hss_one (hs_ret (x_var 3) rfl))
end
end Tly
end
section
set_option Elab.async false
set_option linter.all false
set_option maxRecDepth 100000
set_option maxHeartbeats 2000000
namespace Tly
open PySem PySem.Spec PyProof.Rows L2 Dl
section
variable {α : Type} [DecidableEq α] {pg eg : α → Bool} {succ : α → List (Nat × α)}
theorem bfs_hit {m at' : Nat} {ns : List (α × List Nat)} {h : α} {txt r : List Nat} (e : ns[at']? = some (h, txt)) (hp : pg h = false) (hi : (Gm.bfsIn eg txt (succ h) ns).1 = some r) : Gm.bfs pg eg succ (m + 1) ns at' = some r := by
  unfold Gm.bfs
  rw [e]
  show (if pg h then some txt else _) = some r
  rw [hp]
  show (match Gm.bfsIn eg txt (succ h) ns with | (some r, _) => some r | (none, ns') => Gm.bfs pg eg succ m ns' (at' + 1)) = some r
  cases q : Gm.bfsIn eg txt (succ h) ns with
  | mk a b =>
    rw [q] at hi
    have hi : a = some r := hi
    subst hi
    rfl
theorem bfs_page {m at' : Nat} {ns : List (α × List Nat)} {h : α} {txt : List Nat} (e : ns[at']? = some (h, txt)) (hp : pg h = true) : Gm.bfs pg eg succ (m + 1) ns at' = some txt := by
  unfold Gm.bfs
  rw [e]
  show (if pg h then some txt else _) = some txt
  rw [hp]
  rfl
theorem bfs_go {m at' : Nat} {ns ns' : List (α × List Nat)} {h : α} {txt : List Nat} (e : ns[at']? = some (h, txt)) (hp : pg h = false) (hi : Gm.bfsIn eg txt (succ h) ns = (none, ns')) : Gm.bfs pg eg succ (m + 1) ns at' = Gm.bfs pg eg succ m ns' (at' + 1) := by
  conv => lhs; unfold Gm.bfs
  rw [e]
  show (if pg h then some txt else _) = _
  rw [hp]
  show (match Gm.bfsIn eg txt (succ h) ns with | (some r, _) => some r | (none, ns') => Gm.bfs pg eg succ m ns' (at' + 1)) = _
  rw [hi]
theorem bfs_end {m at' : Nat} {ns : List (α × List Nat)} (h : ns.length ≤ at') : Gm.bfs pg eg succ m ns at' = none := by
  cases m with
  | zero => rfl
  | succ m =>
    unfold Gm.bfs
    rw [List.getElem?_eq_none h]
theorem in_hit {txt : List Nat} {c : Nat} {q : α} {es : List (Nat × α)} {ns : List (α × List Nat)} (h : eg q = true) : Gm.bfsIn eg txt ((c, q) :: es) ns = (some (txt ++ [c]), ns) := by
  unfold Gm.bfsIn
  rw [h]; rfl
theorem in_old {txt : List Nat} {c : Nat} {q : α} {es : List (Nat × α)} {ns : List (α × List Nat)} (h : eg q = false) (k : Gm.known ns q = true) : Gm.bfsIn eg txt ((c, q) :: es) ns = Gm.bfsIn eg txt es ns := by
  conv => lhs; unfold Gm.bfsIn
  rw [h, k]; rfl
theorem in_new {txt : List Nat} {c : Nat} {q : α} {es : List (Nat × α)} {ns : List (α × List Nat)} (h : eg q = false) (k : Gm.known ns q = false) : Gm.bfsIn eg txt ((c, q) :: es) ns = Gm.bfsIn eg txt es (ns ++ [(q, txt ++ [c])]) := by
  conv => lhs; unfold Gm.bfsIn
  rw [h, k]; rfl
def kvsOf (kf : α → List Int) (ns : List (α × List Nat)) : List (List Int × D) := ns.map fun z => (kf z.1, .str (mkS z.2))
theorem kv_get {kf : α → List Int} (inj : ∀ a b, kf a = kf b → a = b) : ∀ {ns : List (α × List Nat)} {q : α} {txt : List Nat}, (ns.map (·.1)).Nodup → (q, txt) ∈ ns → tGet (kvsOf kf ns) (kf q) = some (.str (mkS txt))
  | [], _, _, _, h => by cases h
  | (a, b) :: ns, q, txt, nd, h => by
    obtain ⟨n1, n2⟩ := List.nodup_cons.mp nd
    unfold tGet kvsOf
    rw [List.map_cons, List.find?_cons]
    rcases List.mem_cons.mp h with e | e
    · cases e
      simp
    · have ne : a ≠ q := fun z => n1 (z ▸ List.mem_map.mpr ⟨_, e, rfl⟩)
      have : decide (kf a = kf q) = false := decide_eq_false fun z => ne (inj _ _ z)
      show Option.map (·.2) (match decide (kf a = kf q) with | true => some (kf a, D.str (mkS b)) | false => _) = _
      rw [this]
      exact kv_get inj n2 e
theorem kv_has {kf : α → List Int} (inj : ∀ a b, kf a = kf b → a = b) : ∀ {ns : List (α × List Nat)} {q : α}, (tGet (kvsOf kf ns) (kf q)).isSome = Gm.known ns q
  | [], _ => rfl
  | (a, b) :: ns, q => by
    have i := kv_has inj (ns := ns) (q := q)
    unfold tGet kvsOf at i ⊢
    unfold Gm.known at i ⊢
    rw [List.map_cons, List.find?_cons, List.any_cons, ← i]
    by_cases e : a = q
    · subst e; simp
    · have : decide (kf a = kf q) = false := decide_eq_false fun z => e (inj _ _ z)
      show (Option.map (·.2) (match decide (kf a = kf q) with | true => some (kf a, D.str (mkS b)) | false => _)).isSome = (decide (a = q) || _)
      rw [this, decide_eq_false e]
      rfl
theorem kv_snoc {kf : α → List Int} {ns : List (α × List Nat)} {q : α} {txt : List Nat} : kvsOf kf (ns ++ [(q, txt)]) = kvsOf kf ns ++ [(kf q, .str (mkS txt))] := by unfold kvsOf; rw [List.map_append]; rfl
end
theorem drop_at {α β : Type} {f : α → β} {xs : List α} {i : Nat} {x : α} (h : xs[i]? = some x) : (xs.map f).drop i = f x :: (xs.map f).drop (i + 1) := by
  have hi := (List.getElem?_eq_some_iff.mp h).1
  have e := (List.getElem?_eq_some_iff.mp h).2
  rw [List.drop_eq_getElem_cons (by rw [List.length_map]; exact hi), List.getElem_map, e]
def lpD : Option (List Nat) → D
  | some w => .str (mkS w)
  | none => .non
def ndD (z : Nd) : D := .tup [.int z.1, .int z.2.1, .bl z.2.2]
def kN (z : Nd) : List Int := [z.1, z.2.1, if z.2.2 then 1 else 0]
theorem kN_inj (a b : Nd) (h : kN a = kN b) : a = b := by
  obtain ⟨a1, a2, a3⟩ := a
  obtain ⟨b1, b2, b3⟩ := b
  unfold kN at h
  simp only [List.cons.injEq, and_true] at h
  obtain ⟨h1, h2, h3⟩ := h
  have h1 : a1 = b1 := Int.ofNat.inj h1
  have h2 : a2 = b2 := Int.ofNat.inj h2
  subst h1 h2
  cases a3 <;> cases b3 <;> simp_all
theorem ndD_eq {a b : Nd} : PyData.eqv (pdD (ndD a)) (pdD (ndD b)) = decide (a = b) := by
  obtain ⟨a1, a2, a3⟩ := a
  obtain ⟨b1, b2, b3⟩ := b
  unfold ndD
  simp only [pdD, pdDs, PyData.eqv, PyData.eqvAll]
  have e1 : ((a1 : Int) == (b1 : Int)) = decide (a1 = b1) := Bool.eq_iff_iff.mpr (by rw [beq_iff_eq, decide_eq_true_eq]; exact ⟨fun h => Int.ofNat.inj h, fun h => by rw [h]⟩)
  have e2 : ((a2 : Int) == (b2 : Int)) = decide (a2 = b2) := Bool.eq_iff_iff.mpr (by rw [beq_iff_eq, decide_eq_true_eq]; exact ⟨fun h => Int.ofNat.inj h, fun h => by rw [h]⟩)
  cases a3 <;> cases b3 <;> simp [e1, e2]
theorem dAll_len {t : Tal} (h : t.Ok) : (dAll t).length ≤ 162 := by
  have l := h.sml
  have h1 : ∀ p (l : List Nat), (l.flatMap fun q => [((p, q, false) : Nd), (p, q, true)]).length = l.length * 2 := by
    intro p l
    induction l with
    | nil => rfl
    | cons a l ih => rw [List.flatMap_cons, List.length_append, ih]; simp only [List.length_cons, List.length_nil]; omega
  have h2 : ∀ (l : List Nat), (l.flatMap fun p => (List.range t.n).flatMap fun q => [((p, q, false) : Nd), (p, q, true)]).length = l.length * (t.n * 2) := by
    intro l
    induction l with
    | nil => simp
    | cons a l ih => rw [List.flatMap_cons, List.length_append, ih, h1, List.length_range, List.length_cons, Nat.succ_mul]; omega
  unfold dAll
  rw [h2, List.length_range]
  have : t.n * (t.n * 2) ≤ 9 * (9 * 2) := Nat.mul_le_mul l (Nat.mul_le_mul_right 2 l)
  omega
theorem mkS_snoc {l : List Nat} {c : Nat} : mkS l ++ sg c = mkS (l ++ [c]) := by
  show Str.mk (l.toArray ++ #[c]) = Str.mk _
  simp
theorem mkS_len {l : List Nat} : (mkS l).length = l.length := mkS_size
def wtD (ns : List (Nd × List Nat)) : List D := ns.map fun z => ndD z.1
theorem wtD_len {ns : List (Nd × List Nat)} : (wtD ns).length = ns.length := List.length_map _
theorem sl_ok {n : Nat} (h : n ≤ 1000000) : n ≤ sizeLine := by rw [sizeLine_eq]; omega
section
variable {P : Program} {w : World} {K : PySem.W.Frag} {mg : Str → Option Value} {base : Heap}
def pre_doubling_loop (ds : List D) (x : D) : Prop := ∃ (t : Tal) (s : Nat), t.Ok ∧ s < t.n ∧ ds = [t.d, .int s] ∧ x = lpD (dLoop t s)
theorem sc_doubling_loop : FnScope ["tally", "state", "start", "texts", "waiting", "at", "here", "digit", "spot", "place", "many", "there"] ["tally", "state"] (defScope s_doubling_loop) := ⟨rfl, rfl, rfl, by decide +kernel, rfl, by decide +kernel, by decide +kernel⟩
theorem ok_doubling_loop (W : Wd K mg) : Fn P w K mg base "doubling_loop" 3 ["tally", "state"] (FSp (TA K) pre_doubling_loop) := by
  refine mk_fn (d := d_doubling_loop) W 23 18 rfl rfl rfl rfl rfl sc_doubling_loop (fun ds x h => by obtain ⟨t, s, ok, hs, rfl, rfl⟩ := h; rfl) (fun _ _ _ _ _ _ us hl => match us, hl with | [_, _], _ => rfl) fun f cdv A outer s0 H E Z ds x hp hr => ?_
  obtain ⟨t, s, ok, hs, rfl, rfl⟩ := hp
  have nd := sc_doubling_loop.nd
  have hu := hr.units
  have l0 := dAll_len ok
  let st : Nd := (s, s, false)
  let eg : Nd → Bool := fun z => decide (z = (s, s, true))
  refine hss_seq [.d t.d, .d (.int s), .d (ndD st), .un, .un, .un, .un, .un, .un, .un, .un, .un] (fun Φ' h => hs_set 2 nd (x_tup (a_cons (x_var 1) (a_cons (x_var 1) (a_cons x_bl a_nil)))) h) ?_
  refine hss_seq [.d t.d, .d (.int s), .d (ndD st), .T (kvsOf kN [(st, [])]), .L [ndD st], .d (.int ((0 : Nat) : Int)), .un, .un, .un, .un, .un, .un] (fun Φ' h => hs_par3 3 4 5 nd (vs_cons (XTd.v (td_one (k := kN st) hu (x_var 2) x_str rfl)) (vs_cons (XL.v (l_lst (a_cons (x_var 2) a_nil))) (vs_cons (XE.v x_int) vs_nil))) h) ?_
  refine hss_cons (fun d => dLoop t s = none)
    (hs_while (fun m d => ∃ (ns : List (Nd × List Nat)) (at' : Nat) (a6 a7 a8 a9 a10 a11 : LV), Gm.Kp (dAll t) ns ∧ at' ≤ ns.length ∧ at' + m = (dAll t).length + 1 ∧ Gm.bfs (fun _ => false) eg (dSucc t) m ns at' = dLoop t s ∧ d = [.d t.d, .d (.int s), .d (ndD st), .T (kvsOf kN ns), .L (wtD ns), .d (.int (at' : Nat)), a6, a7, a8, a9, a10, a11]) ((dAll t).length + 1)
      ⟨[(st, [])], 0, _, _, _, _, _, _, d_kp hs, by simp, by omega, rfl, rfl⟩ fun m d ⟨ns, at', a6, a7, a8, a9, a10, a11, Kk, hat, hm, hb, hd⟩ => ?_) fun d hd => ?_
  · subst hd
    have hlen := Kk.len
    refine ⟨_, t_lt (x_var 5) (x_lenL W.b_len (o_L 4)), fun hq => ?_, fun hq => ?_⟩
    · have hlt : at' < ns.length := by
        have := of_decide_eq_true hq
        rw [wtD_len] at this
        omega
      obtain ⟨m, rfl⟩ : ∃ k, m = k + 1 := ⟨m - 1, by omega⟩
      obtain ⟨hh, hhe⟩ : ∃ z, ns[at']? = some z := ⟨_, List.getElem?_eq_getElem hlt⟩
      obtain ⟨hn, txt⟩ := hh
      have hU : hn ∈ dAll t := Kk.sub hn (List.mem_map.mpr ⟨_, List.mem_of_getElem? hhe, rfl⟩)
      obtain ⟨b1, b2⟩ := mem_dAll.mp hU
      have htx := Kk.txt at' hn txt hhe
      refine hss_seq [.d t.d, .d (.int s), .d (ndD st), .T (kvsOf kN ns), .L (wtD ns), .d (.int (at' : Nat)), .d (ndD hn), a7, a8, a9, a10, a11] (fun Φ' h => hs_set 6 nd (x_ixL (o_L 4) (x_var 5) (atI_nat (by unfold wtD; rw [List.getElem?_map, hhe]; rfl))) h) ?_
      refine hss_cons (fun d => ∃ (ns' : List (Nd × List Nat)) (a7 a8 a9 a10 a11 : LV), Gm.Kp (dAll t) ns' ∧ ns.length ≤ ns'.length ∧ Gm.bfsIn eg txt (dSucc t hn) ns = (none, ns') ∧ d = [.d t.d, .d (.int s), .d (ndD st), .T (kvsOf kN ns'), .L (wtD ns'), .d (.int (at' : Nat)), .d (ndD hn), a7, a8, a9, a10, a11])
        (hs_forT (t := .tup [7, 8, 9, 10]) (pairSteps t hn.1 hn.2.1) pairD (fun i d => ∃ (ns' : List (Nd × List Nat)) (a7 a8 a9 a10 a11 : LV), Gm.Kp (dAll t) ns' ∧ ns.length ≤ ns'.length ∧ ns'[at']? = some (hn, txt) ∧ Gm.bfsIn eg txt ((dSucc t hn).drop i) ns' = Gm.bfsIn eg txt (dSucc t hn) ns ∧ d = [.d t.d, .d (.int s), .d (ndD st), .T (kvsOf kN ns'), .L (wtD ns'), .d (.int (at' : Nat)), .d (ndD hn), a7, a8, a9, a10, a11])
          (i_list (x_call (ok_pair_steps W) (hr.mono (by omega)) (a_cons (x_var 0) (a_cons (x_ixT (XE.r (x_var 6)) x_int rfl) (a_cons (x_ixT (XE.r (x_var 6)) x_int rfl) a_nil))) ⟨t, hn.1, hn.2.1, ok, b1, b2, rfl, rfl⟩))
          (g_tup (gs_cons 7 (gs_cons 8 (gs_cons 9 (gs_cons 10 gs_nil nd) nd) nd) nd)) ⟨ns, _, _, _, _, _, Kk, Nat.le_refl _, hhe, rfl, rfl⟩ (fun i d y hy ⟨ns', a7, a8, a9, a10, a11, Kk', hle, hat', hin, hd⟩ => ?_)
          (fun d ⟨ns', a7, a8, a9, a10, a11, Kk', hle, hat', hin, hd⟩ => ⟨ns', a7, a8, a9, a10, a11, Kk', hle, by
            rw [← hin, List.drop_eq_nil_of_le (by unfold dSucc; rw [List.length_map]; exact Nat.le_refl _)]; rfl, hd⟩)) fun d ⟨ns', a7, a8, a9, a10, a11, Kk', hle, hin, hd⟩ => ?_
      · subst hd
        refine ⟨_, rfl, ?_⟩
        obtain ⟨c, p, q, n⟩ := y
        have hdr : (dSucc t hn).drop i = (c, (p, q, hn.2.2 || decide (p ≠ q) || decide (1 < n))) :: (dSucc t hn).drop (i + 1) := drop_at (f := fun y : Nat × Nat × Nat × Int => (y.1, ((y.2.1, y.2.2.1, hn.2.2 || decide (y.2.1 ≠ y.2.2.1) || decide (1 < y.2.2.2)) : Nd))) hy
        obtain ⟨hc, hp, hq', _⟩ := (mem_pair ok b1 b2).mp (List.mem_of_getElem? hy)
        generalize hth : ((p, q, hn.2.2 || decide (p ≠ q) || decide (1 < n)) : Nd) = th at hdr
        have hthU : th ∈ dAll t := by rw [← hth]; exact mem_dAll.mpr ⟨hp, hq'⟩
        have hget : tGet (kvsOf kN ns') (kN hn) = some (.str (mkS txt)) := kv_get kN_inj Kk'.nd (List.mem_of_getElem? hat')
        have hlen' := Kk'.len
        have hz : (mkS txt).length + (sg c).length ≤ sizeLine := sl_ok (by rw [mkS_len]; show txt.length + 1 ≤ _; omega)
        refine hss_seq [.d t.d, .d (.int s), .d (ndD st), .T (kvsOf kN ns'), .L (wtD ns'), .d (.int (at' : Nat)), .d (ndD hn), .d (.str (sg c)), .d (.int p), .d (.int q), .d (.int n), .d (ndD th)] (fun Φ' h => hs_set 11 nd (XE.eq (x_tup (a_cons (x_var 8) (a_cons (x_var 9) (a_cons (x_or (x_ixT (XE.r (x_var 6)) x_int rfl) fun _ => x_or (x_ne (x_var 8) (x_var 9)) fun _ => x_one (x_gt (x_var 10) x_int)) a_nil)))) (by
          rw [← hth]
          unfold ndD
          rw [vnat_eq, ← decide_not, Bool.or_assoc])) h) ?_
        refine hss_guard (t_eqD 1 1 hu (XE.r (x_var 11)) (XE.r (x_tup (a_cons (x_var 1) (a_cons (x_var 1) (a_cons x_bl a_nil))))) rfl rfl (ndD_eq (a := th) (b := (s, s, true)))) (fun e => ?_) fun e => ?_
        · refine hss_one (hs_ret (XE.eq (x_addS (x_tget 3 (ys := [.int hn.1, .int hn.2.1, .bl hn.2.2]) (k := kN hn) hu (x_var 6) rfl rfl hget) (x_var 7) hz) (congrArg D.str mkS_snoc)) ?_)
          have : dLoop t s = some (txt ++ [c]) := by
            rw [← hb]
            refine bfs_hit hhe rfl ?_
            rw [← hin, hdr, in_hit (eg := eg) (q := th) e]
          rw [this]
          rfl
        · refine hss_one (hs_if (t_tnotin 3 (ys := [.int th.1, .int th.2.1, .bl th.2.2]) (k := kN th) hu (x_var 11) rfl rfl) (fun e2 => ?_) fun e2 => ?_)
          · have hk : Gm.known ns' th = false := by rw [← kv_has kN_inj]; simpa using e2
            have hnone : tGet (kvsOf kN ns') (kN th) = none := by
              have := kv_has kN_inj (ns := ns') (q := th)
              rw [hk] at this
              exact Option.isSome_eq_false_iff.mp this |> Option.isNone_iff_eq_none.mp
            refine hss_seq [.d t.d, .d (.int s), .d (ndD st), .T (kvsOf kN (ns' ++ [(th, txt ++ [c])])), .L (wtD ns'), .d (.int (at' : Nat)), .d (ndD hn), .d (.str (sg c)), .d (.int p), .d (.int q), .d (.int n), .d (ndD th)] (fun Φ' h => hs_tput 3 (ys := [.int th.1, .int th.2.1, .bl th.2.2]) (k := kN th) hu (XE.eq (x_addS (x_tget 3 (ys := [.int hn.1, .int hn.2.1, .bl hn.2.2]) (k := kN hn) hu (x_var 6) rfl rfl hget) (x_var 7) hz) (congrArg D.str mkS_snoc)) (x_var 11) rfl rfl hnone (by unfold kvsOf; rw [List.length_map]; omega) (by rw [← kv_snoc]; exact h)) ?_
            refine hss_one (hs_append 4 (x_var 11) rfl (by rw [wtD_len]; omega) ⟨ns' ++ [(th, txt ++ [c])], .d (.str (sg c)), .d (.int p), .d (.int q), .d (.int n), .d (ndD th), Kk'.snoc hthU hk (by rw [List.length_append]; simp; omega), by rw [List.length_append]; omega, by rw [List.getElem?_append_left (List.getElem?_eq_some_iff.mp hat').1]; exact hat', ?_, by unfold wtD; rw [List.map_append]; rfl⟩)
            rw [← hin, hdr, in_new (eg := eg) (q := th) e hk]
          · have hk : Gm.known ns' th = true := by rw [← kv_has kN_inj]; simpa using e2
            exact hss_nil ⟨ns', .d (.str (sg c)), .d (.int p), .d (.int q), .d (.int n), .d (ndD th), Kk', hle, hat', by rw [← hin, hdr, in_old (eg := eg) (q := th) e hk], rfl⟩
      · subst hd
        refine hss_one (hs_aug 5 nd rfl x_int ⟨m, by omega, ns', at' + 1, _, _, _, _, _, _, Kk', by omega, by omega, ?_, rfl⟩)
        rw [← hb]
        exact (bfs_go hhe rfl hin).symm
    · have hge : ns.length ≤ at' := by
        have := of_decide_eq_false hq
        rw [wtD_len] at this
        omega
      show dLoop t s = none
      rw [← hb]
      exact bfs_end hge
  · refine hss_one (hs_ret x_non ?_)
    show D.non = lpD (dLoop t s)
    rw [hd]; rfl
end
end Tly
end
section
set_option Elab.async false
set_option linter.all false
set_option maxRecDepth 100000
set_option maxHeartbeats 2000000
namespace Tly
open PySem PySem.Spec PyProof.Rows L2 Dl
section
variable {α β : Type} [DecidableEq α] {kf : α → Key} {vf : β → D}
theorem d_get (inj : ∀ a b, kf a = kf b → a = b) : ∀ {ns : List (α × β)} {q : α} {v : β}, (ns.map (·.1)).Nodup → (q, v) ∈ ns → dGet ((ns.map fun z => kf z.1).zip (ns.map fun z => vf z.2)) (kf q) = some (vf v)
  | [], _, _, _, h => by cases h
  | (a, b) :: ns, q, v, nd, h => by
    obtain ⟨n1, n2⟩ := List.nodup_cons.mp nd
    unfold dGet
    rw [List.map_cons, List.map_cons, List.zip_cons_cons, List.find?_cons]
    rcases List.mem_cons.mp h with e | e
    · cases e
      simp
    · have ne : a ≠ q := fun z => n1 (z ▸ List.mem_map.mpr ⟨_, e, rfl⟩)
      have : decide (kf a = kf q) = false := decide_eq_false fun z => ne (inj _ _ z)
      show Option.map (·.2) (match decide (kf a = kf q) with | true => some (kf a, vf b) | false => _) = _
      rw [this]
      exact d_get inj n2 e
theorem d_has (inj : ∀ a b, kf a = kf b → a = b) {ns : List (α × β)} {q : α} : dHas (ns.map fun z => kf z.1) (kf q) = decide (q ∈ ns.map (·.1)) := by
  unfold dHas
  rw [Bool.eq_iff_iff, List.any_eq_true, decide_eq_true_eq, List.mem_map]
  constructor
  · rintro ⟨k, hk, e⟩
    obtain ⟨z, hz, rfl⟩ := List.mem_map.mp hk
    exact ⟨z, hz, inj _ _ (of_decide_eq_true e)⟩
  · rintro ⟨z, hz, rfl⟩
    exact ⟨_, List.mem_map.mpr ⟨z, hz, rfl⟩, by simp⟩
theorem d_new {ks : List Key} {xs : List D} {k : Key} {x : D} (h : dHas ks k = false) : dPut ks xs k x = .M (ks ++ [k]) (xs ++ [x]) := by
  unfold dPut
  rw [h]; rfl
theorem d_old (inj : ∀ a b, kf a = kf b → a = b) {ns : List (α × β)} {q : α} {v : β} (h : q ∈ ns.map (·.1)) : dPut (ns.map fun z => kf z.1) (ns.map fun z => vf z.2) (kf q) (vf v) = .M (ns.map fun z => kf z.1) (ns.map fun z => if z.1 = q then vf v else vf z.2) := by
  unfold dPut
  rw [d_has inj, decide_eq_true h]
  show LV.M _ _ = LV.M _ _
  congr 1
  rw [List.zip_map', List.map_map]
  refine List.map_congr_left fun z _ => ?_
  show (if kf z.1 = kf q then vf v else vf z.2) = _
  by_cases e : z.1 = q
  · rw [if_pos (by rw [e]), if_pos e]
  · rw [if_neg fun h => e (inj _ _ h), if_neg e]
end
theorem inlN_inj (a b : Nat) (h : (Sum.inl (a : Int) : Key) = Sum.inl (b : Int)) : a = b := by injection h with h; exact Int.ofNat.inj h
theorem sgK_inj (a b : Nat) (h : (Sum.inr (sg a) : Key) = Sum.inr (sg b)) : a = b := by injection h with h; injection h with h; simpa using h
section
variable {P : Program} {w : World} {K : PySem.W.Frag} {mg : Str → Option Value} {base : Heap}
def pre_doubling_states (ds : List D) (x : D) : Prop := ∃ (t : Tal), t.Ok ∧ ds = [t.d] ∧ x = .tup (stD (doubling t))
theorem sc_doubling_states : FnScope ["tally", "some", "state"] ["tally"] (defScope s_doubling_states) := ⟨rfl, rfl, rfl, by decide +kernel, rfl, by decide +kernel, by decide +kernel⟩
theorem ok_doubling_states (W : Wd K mg) : Fn P w K mg base "doubling_states" 4 ["tally"] (FSp (TA K) pre_doubling_states) := by
  refine mk_fn (d := d_doubling_states) W 25 20 rfl rfl rfl rfl rfl sc_doubling_states (fun ds x h => by obtain ⟨t, ok, rfl, rfl⟩ := h; rfl) (fun _ _ _ _ _ _ us hl => match us, hl with | [_], _ => rfl) fun f cdv A outer s0 H E Z ds x hp hr => ?_
  obtain ⟨t, ok, rfl, rfl⟩ := hp
  have nd := sc_doubling_states.nd
  have l1 := ok.sml
  have l2 := useful_len (t := t)
  refine hss_seq [.d t.d, .L (stD ((useful t).filter (comesBack t))), .un] (fun Φ' h => hs_setLc 1 [("state", 2)] (.one 2) (useful t) (fun (k : Nat) => .int k) (comesBack t) (fun (k : Nat) => .int k) nd (i_tup (x_call (ok_useful W) (hr.mono (by omega)) (a_cons (x_var 0) a_nil) ⟨t, ok, rfl, rfl⟩)) (blkOk_by (by kernel_rfl))
    (fun _ _ _ _ _ => g_name 2 nd) (fun q hq => ⟨_, rfl, fun _ _ _ _ _ => ts_one (t_val (x_call (ok_comes_back W) (hr.mono (by omega)) (a_cons (x_var 0) (a_cons (x_var 2) a_nil)) ⟨t, q, ok, useful_lt hq, rfl, rfl⟩)), fun _ _ _ _ _ _ => x_var 2⟩) (by omega) h) ?_
  refine hss_frL 1 ?_
  have l3 := List.length_filter_le (comesBack t) (useful t)
  exact hss_one (hs_ret (x_tupL W.b_tuple (XE.r (XL.xe (l_lc [("state", 2)] (.one 2) ((useful t).filter (comesBack t)) (fun (k : Nat) => .int k) (fun s => (dLoop t s).isSome) (fun (k : Nat) => .int k) nd (i_list (x_var 1)) (blkOk_by (by kernel_rfl))
    (fun _ _ _ _ _ => g_name 2 nd) (fun q hq => ⟨_, rfl, fun _ _ _ _ _ => ts_one (XT.eq (t_notN (x_call (ok_doubling_loop W) (hr.mono (by omega)) (a_cons (x_var 0) (a_cons (x_var 2) a_nil)) ⟨t, q, ok, useful_lt (List.mem_filter.mp hq).1, rfl, rfl⟩)) (by cases dLoop t q <;> rfl)), fun _ _ _ _ _ _ => x_var 2⟩) (by omega))))) rfl)
def pre_does_double (ds : List D) (x : D) : Prop := ∃ (t : Tal), t.Ok ∧ ds = [t.d] ∧ x = .bl (!(doubling t).isEmpty)
theorem stD_empty {l : List Nat} : (stD l).isEmpty = l.isEmpty := by cases l <;> rfl
theorem ok_stD {n : Nat} {l : List Nat} : okD (n + 1) (.tup (stD l)) = true := by unfold okD; exact okDs_all (fun a => by cases n <;> rfl)
theorem sc_does_double : FnScope ["tally"] ["tally"] (defScope s_does_double) := ⟨rfl, rfl, rfl, by decide +kernel, rfl, by decide +kernel, by decide +kernel⟩
theorem ok_does_double (W : Wd K mg) : Fn P w K mg base "does_double" 5 ["tally"] (FSp (TA K) pre_does_double) := by
  refine mk_fn (d := d_does_double) W 26 21 rfl rfl rfl rfl rfl sc_does_double (fun ds x h => by obtain ⟨t, ok, rfl, rfl⟩ := h; rfl) (fun _ _ _ _ _ _ us hl => match us, hl with | [_], _ => rfl) fun f cdv A outer s0 H E Z ds x hp hr => ?_
  obtain ⟨t, ok, rfl, rfl⟩ := hp
  have nd := sc_does_double.nd
  exact hss_one (hs_ret (x_neD 1 1 hr.units (XE.r (x_call (ok_doubling_states W) (hr.mono (by omega)) (a_cons (x_var 0) a_nil) ⟨t, ok, rfl, rfl⟩)) (XE.r (x_tup a_nil)) ok_stD rfl (by rw [eqv_nil, stD_empty])) rfl)
def pre_text_between (ds : List D) (x : D) : Prop := ∃ (t : Tal) (S T : List Nat), t.Ok ∧ (∀ s ∈ S, s < t.n) ∧ S.length < 64 ∧ ds = [t.d, .lst (stD S), .lst (stD T)] ∧ x = lpD (between t S T)
abbrev tbK (ns : List (Nat × List Nat)) : List Key := ns.map fun z => (Sum.inl (z.1 : Int) : Key)
abbrev tbV (ns : List (Nat × List Nat)) : List D := ns.map fun z => D.str (mkS z.2)
theorem tb_get {ns : List (Nat × List Nat)} {q : Nat} {txt : List Nat} (nd : (ns.map (·.1)).Nodup) (h : (q, txt) ∈ ns) : dGet ((tbK ns).zip (tbV ns)) (Sum.inl (q : Int)) = some (.str (mkS txt)) := d_get (kf := fun (k : Nat) => (Sum.inl (k : Int) : Key)) (vf := fun v => D.str (mkS v)) inlN_inj nd h
def stW (ns : List (Nat × List Nat)) : List D := stD (ns.map (·.1))
theorem stW_len {ns : List (Nat × List Nat)} : (stW ns).length = ns.length := by unfold stW stD; rw [List.length_map, List.length_map]
theorem sc_text_between : FnScope ["tally", "firsts", "goals", "waiting", "at", "texts", "state", "digit", "spot", "number"] ["tally", "firsts", "goals"] (defScope s_text_between) := ⟨rfl, rfl, rfl, by decide +kernel, rfl, by decide +kernel, by decide +kernel⟩
theorem ok_text_between (W : Wd K mg) : Fn P w K mg base "text_between" 2 ["tally", "firsts", "goals"] (FSp (TA K) pre_text_between) := by
  refine mk_fn (d := d_text_between) W 27 22 rfl rfl rfl rfl rfl sc_text_between (fun ds x h => by obtain ⟨t, S, T, ok, hS, hl, rfl, rfl⟩ := h; rfl) (fun _ _ _ _ _ _ us hl => match us, hl with | [_, _, _], _ => rfl) fun f cdv A outer s0 H E Z ds x hp hr => ?_
  obtain ⟨t, S, T, ok, hS, hl, rfl, rfl⟩ := hp
  have nd := sc_text_between.nd
  have hu := hr.units
  have l1 := ok.sml
  let n0 : List (Nat × List Nat) := (fsts t S).map fun p => (p, [])
  have e0 : n0.map (·.1) = fsts t S := by show ((fsts t S).map _).map _ = _; rw [List.map_map]; exact List.map_id _
  refine hss_seq [.d t.d, .d (.lst (stD S)), .d (.lst (stD T)), .L (stD (fsts t S)), .d (.int ((0 : Nat) : Int)), .un, .un, .un, .un, .un] (fun Φ' h => hs_par 3 4 nd (.L (XL.eq (l_sortedSet (ns := S.map fun (k : Nat) => (k : Int)) (ms := (fsts t S).map fun (k : Nat) => (k : Int)) W.b_sorted W.b_set (XE.r (XE.eq (x_var 1) (by rw [stD_ints]))) (by rw [List.length_map]; exact hl) (asc_ints fsts_asc) (fsts_ints hS)) (by rw [stD_ints]))) (.d x_int) h) ?_
  refine hss_seq [.d t.d, .d (.lst (stD S)), .d (.lst (stD T)), .L (stD (fsts t S)), .d (.int ((0 : Nat) : Int)), .M [] [], .un, .un, .un, .un] (fun Φ' h => hs_setM 5 nd m_dict0 h) ?_
  have lf : (fsts t S).length ≤ t.n := flt_len
  refine hss_seq [.d t.d, .d (.lst (stD S)), .d (.lst (stD T)), .L (stW n0), .d (.int ((0 : Nat) : Int)), .M (tbK n0) (tbV n0), .un, .un, .un, .un] (fun Φ' h => hs_fill 6 3 5 (ns := (fsts t S).map fun (k : Nat) => (k : Int)) (by omega) nd rfl (by rw [← stD_ints]; rfl) rfl ((asc_ints fsts_asc).imp fun h => Int.ne_of_lt h) (by rw [List.length_map]; omega) (by
    have e1 : tbK n0 = ((fsts t S).map fun (k : Nat) => (k : Int)).map .inl := by show ((fsts t S).map _).map _ = _; rw [List.map_map, List.map_map]; rfl
    have e2 : tbV n0 = ((fsts t S).map fun (k : Nat) => (k : Int)).map fun _ => .str (Str.ofString "") := by show ((fsts t S).map _).map _ = _; rw [List.map_map, List.map_map]; rfl
    rw [e1, e2] at h
    unfold stW at h
    rw [e0] at h
    exact h)) ?_
  refine hss_cons (fun d => between t S T = none)
    (hs_while (fun m d => ∃ (ns : List (Nat × List Nat)) (at' : Nat) (a6 a7 a8 a9 : LV), Gm.Kp (List.range t.n) ns ∧ at' ≤ ns.length ∧ at' + m = t.n + 1 ∧ Gm.bfs (fun p => decide (p ∈ T)) (fun _ => false) (bSucc t) m ns at' = between t S T ∧ d = [.d t.d, .d (.lst (stD S)), .d (.lst (stD T)), .L (stW ns), .d (.int (at' : Nat)), .M (tbK ns) (tbV ns), a6, a7, a8, a9]) (t.n + 1)
      ⟨n0, 0, _, _, _, _, b_kp, Nat.zero_le _, by omega, rfl, rfl⟩ fun m d ⟨ns, at', a6, a7, a8, a9, Kk, hat, hm, hb, hd⟩ => ?_) fun d hd => ?_
  · subst hd
    have hlen := Kk.len
    rw [List.length_range] at hlen
    refine ⟨_, t_lt (x_var 4) (x_lenL W.b_len (o_L 3)), fun hq => ?_, fun hq => ?_⟩
    · have hlt : at' < ns.length := by
        have := of_decide_eq_true hq
        rw [stW_len] at this
        omega
      obtain ⟨m, rfl⟩ : ∃ k, m = k + 1 := ⟨m - 1, by omega⟩
      obtain ⟨hh, hhe⟩ : ∃ z, ns[at']? = some z := ⟨_, List.getElem?_eq_getElem hlt⟩
      obtain ⟨hn, txt⟩ := hh
      have hU : hn < t.n := List.mem_range.mp (Kk.sub hn (List.mem_map.mpr ⟨_, List.mem_of_getElem? hhe, rfl⟩))
      have htx := Kk.txt at' hn txt hhe
      refine hss_seq [.d t.d, .d (.lst (stD S)), .d (.lst (stD T)), .L (stW ns), .d (.int (at' : Nat)), .M (tbK ns) (tbV ns), .d (.int hn), a7, a8, a9] (fun Φ' h => hs_set 6 nd (x_ixL (o_L 3) (x_var 4) (atI_nat (by unfold stW stD; rw [List.getElem?_map, List.getElem?_map, hhe]; rfl))) h) ?_
      refine hss_guard (t_inL (ns := T.map fun (k : Nat) => (k : Int)) (x_var 6) (XE.r (XE.eq (x_var 2) (by rw [stD_ints])))) (fun e => ?_) fun e => ?_
      · have hT : decide (hn ∈ T) = true := by rw [← decide_eq_decide.mpr (mem_ints (l := T) (k := hn))]; exact e
        refine hss_one (hs_ret (x_dget (by omega) (o_M 5) (x_var 6) rfl (tb_get Kk.nd (List.mem_of_getElem? hhe))) ?_)
        rw [← hb, bfs_page hhe hT]
        rfl
      · have hT : decide (hn ∈ T) = false := by rw [← decide_eq_decide.mpr (mem_ints (l := T) (k := hn))]; exact e
        have ls := steps_len ok hU
        refine hss_cons (fun d => ∃ (ns' : List (Nat × List Nat)) (a7 a8 a9 : LV), Gm.Kp (List.range t.n) ns' ∧ ns.length ≤ ns'.length ∧ Gm.bfsIn (fun _ => false) txt (bSucc t hn) ns = (none, ns') ∧ d = [.d t.d, .d (.lst (stD S)), .d (.lst (stD T)), .L (stW ns'), .d (.int (at' : Nat)), .M (tbK ns') (tbV ns'), .d (.int hn), a7, a8, a9])
          (hs_forT (t := .tup [7, 8, 9]) (stepsOf t hn) stepD (fun i d => ∃ (ns' : List (Nat × List Nat)) (a7 a8 a9 : LV), Gm.Kp (List.range t.n) ns' ∧ ns.length ≤ ns'.length ∧ ns'[at']? = some (hn, txt) ∧ Gm.bfsIn (fun _ => false) txt ((bSucc t hn).drop i) ns' = Gm.bfsIn (fun _ => false) txt (bSucc t hn) ns ∧ d = [.d t.d, .d (.lst (stD S)), .d (.lst (stD T)), .L (stW ns'), .d (.int (at' : Nat)), .M (tbK ns') (tbV ns'), .d (.int hn), a7, a8, a9])
            (i_list (x_call (ok_steps_of W) (hr.mono (by omega)) (a_cons (x_var 0) (a_cons (x_var 6) a_nil)) ⟨t, hn, ok, hU, rfl, rfl⟩))
            (g_tup (gs_cons 7 (gs_cons 8 (gs_cons 9 gs_nil nd) nd) nd)) ⟨ns, _, _, _, Kk, Nat.le_refl _, hhe, rfl, rfl⟩ (fun i d y hy ⟨ns', a7, a8, a9, Kk', hle, hat', hin, hd⟩ => ?_)
            (fun d ⟨ns', a7, a8, a9, Kk', hle, hat', hin, hd⟩ => ⟨ns', a7, a8, a9, Kk', hle, by
              rw [← hin, List.drop_eq_nil_of_le (by unfold bSucc; rw [List.length_map]; exact Nat.le_refl _)]; rfl, hd⟩)) fun d ⟨ns', a7, a8, a9, Kk', hle, hin, hd⟩ => ?_
        · subst hd
          refine ⟨_, rfl, ?_⟩
          obtain ⟨c, q, n⟩ := y
          have hdr : (bSucc t hn).drop i = (c, q) :: (bSucc t hn).drop (i + 1) := drop_at (f := fun z : Nat × Nat × Int => (z.1, z.2.1)) hy
          obtain ⟨hc, hq', _⟩ := (mem_steps ok hU).mp (List.mem_of_getElem? hy)
          have hlen' := Kk'.len
          rw [List.length_range] at hlen'
          have hz : (mkS txt).length + (sg c).length ≤ sizeLine := sl_ok (by rw [mkS_len]; show txt.length + 1 ≤ _; omega)
          refine hss_one (hs_if (t_dnotin (by omega) (x_var 8) (o_M 5) rfl) (fun e2 => ?_) fun e2 => ?_)
          · have hh : dHas (tbK ns') (Sum.inl (q : Int)) = false := by simpa using e2
            have hk : Gm.known ns' q = false := by
              have := d_has (kf := fun (k : Nat) => (Sum.inl (k : Int) : Key)) inlN_inj (ns := ns') (q := q)
              rw [hh] at this
              cases e : Gm.known ns' q with
              | false => rfl
              | true => exact absurd (Gm.known_iff.mp e) (of_decide_eq_false this.symm)
            refine hss_seq [.d t.d, .d (.lst (stD S)), .d (.lst (stD T)), .L (stW ns'), .d (.int (at' : Nat)), .M (tbK (ns' ++ [(q, txt ++ [c])])) (tbV (ns' ++ [(q, txt ++ [c])])), .d (.int hn), .d (.str (sg c)), .d (.int q), .d (.int n)] (fun Φ' h => hs_dput 5 (ks := tbK ns') (xs := tbV ns') (k := Sum.inl (q : Int)) (by omega) (XE.eq (x_addS (x_dget (by omega) (o_M 5) (x_var 6) rfl (tb_get Kk'.nd (List.mem_of_getElem? hat'))) (x_var 7) hz) (congrArg D.str mkS_snoc)) (x_var 8) rfl rfl (by rw [List.length_map]; omega) (by
              rw [d_new hh]
              have e1 : tbK (ns' ++ [(q, txt ++ [c])]) = tbK ns' ++ [Sum.inl (q : Int)] := List.map_append
              have e2 : tbV (ns' ++ [(q, txt ++ [c])]) = tbV ns' ++ [.str (mkS (txt ++ [c]))] := List.map_append
              rw [e1, e2] at h
              exact h)) ?_
            refine hss_one (hs_append 3 (x_var 8) rfl (by rw [stW_len]; omega) ⟨ns' ++ [(q, txt ++ [c])], .d (.str (sg c)), .d (.int q), .d (.int n), Kk'.snoc (List.mem_range.mpr hq') hk (by rw [List.length_append]; simp; omega), by rw [List.length_append]; omega, by rw [List.getElem?_append_left (List.getElem?_eq_some_iff.mp hat').1]; exact hat', ?_, by unfold stW stD; rw [List.map_append, List.map_append]; rfl⟩)
            rw [← hin, hdr, in_new rfl hk]
          · have hh : dHas (tbK ns') (Sum.inl (q : Int)) = true := by simpa using e2
            have hk : Gm.known ns' q = true := by
              have := d_has (kf := fun (k : Nat) => (Sum.inl (k : Int) : Key)) inlN_inj (ns := ns') (q := q)
              rw [hh] at this
              exact Gm.known_iff.mpr (of_decide_eq_true this.symm)
            exact hss_nil ⟨ns', .d (.str (sg c)), .d (.int q), .d (.int n), Kk', hle, hat', by rw [← hin, hdr, in_old rfl hk], rfl⟩
        · subst hd
          refine hss_one (hs_aug 4 nd rfl x_int ⟨m, by omega, ns', at' + 1, _, _, _, _, Kk', by omega, by omega, ?_, rfl⟩)
          rw [← hb]
          exact (bfs_go hhe hT hin).symm
    · have hge : ns.length ≤ at' := by
        have := of_decide_eq_false hq
        rw [stW_len] at this
        omega
      show between t S T = none
      rw [← hb]
      exact bfs_end hge
  · refine hss_one (hs_ret x_non ?_)
    show D.non = lpD (between t S T)
    rw [hd]; rfl
end
end Tly
end
section
set_option Elab.async false
set_option linter.all false
set_option maxRecDepth 100000
set_option maxHeartbeats 2000000
namespace Tly
open PySem PySem.Spec PyProof.Rows L2 Dl
def dPaperD (t : Tal) : D := match doubling t with
  | [] => .non
  | s :: _ => .tup [.str "doubles", lpD (between t (starts t) [s]), .int s, lpD (dLoop t s), lpD (between t [s] (goals t))]
theorem doubling_lt {t : Tal} {s : Nat} (h : s ∈ doubling t) : s < t.n := useful_lt (List.mem_filter.mp (List.mem_filter.mp h).1).1
def wiK (t : Tal) : List Key := t.dg.map fun c => (Sum.inr (sg c) : Key)
def wiD (t : Tal) (s : Nat) (lot : List Nat) : D := .dk (wiK t) (t.dg.map fun c => .lst (stD (within t s lot c)))
def triD (z : Nat × Nat × Nat) : D := .tup [.int z.1, .int z.2.1, .int z.2.2]
section
variable {P : Program} {w : World} {K : PySem.W.Frag} {mg : Str → Option Value} {base : Heap}
def pre_doubling_paper (ds : List D) (x : D) : Prop := ∃ (t : Tal), t.Ok ∧ ds = [t.d] ∧ x = dPaperD t
theorem sc_doubling_paper : FnScope ["tally", "some", "state", "ahead", "behind", "spot"] ["tally"] (defScope s_doubling_paper) := ⟨rfl, rfl, rfl, by decide +kernel, rfl, by decide +kernel, by decide +kernel⟩
theorem ok_doubling_paper (W : Wd K mg) : Fn P w K mg base "doubling_paper" 5 ["tally"] (FSp (TA K) pre_doubling_paper) := by
  refine mk_fn (d := d_doubling_paper) W 28 23 rfl rfl rfl rfl rfl sc_doubling_paper (fun ds x h => by obtain ⟨t, ok, rfl, rfl⟩ := h; rfl) (fun _ _ _ _ _ _ us hl => match us, hl with | [_], _ => rfl) fun f cdv A outer s0 H E Z ds x hp hr => ?_
  obtain ⟨t, ok, rfl, rfl⟩ := hp
  have nd := sc_doubling_paper.nd
  have l1 := ok.sml
  have ls : (starts t).length ≤ t.n := flt_len
  have lg : (goals t).length ≤ t.n := flt_len
  refine hss_seq [.d t.d, .d (.tup (stD (doubling t))), .un, .un, .un, .un] (fun Φ' h => hs_set 1 nd (x_call (ok_doubling_states W) (hr.mono (by omega)) (a_cons (x_var 0) a_nil) ⟨t, ok, rfl, rfl⟩) h) ?_
  refine hss_guard (t_eqD 1 1 hr.units (XE.r (x_var 1)) (XE.r (x_tup a_nil)) ok_stD rfl (by rw [eqv_nil, stD_empty])) (fun e => hss_one (hs_ret x_non ?_)) fun e => ?_
  · have : doubling t = [] := List.isEmpty_iff.mp e
    show D.non = dPaperD t
    unfold dPaperD
    rw [this]
  · obtain ⟨s, r, es⟩ : ∃ s r, doubling t = s :: r := by
      cases q : doubling t with
      | nil => rw [q] at e; cases e
      | cons s r => exact ⟨s, r, rfl⟩
    have hs : s < t.n := doubling_lt (by rw [es]; exact List.mem_cons_self)
    refine hss_seq [.d t.d, .d (.tup (stD (doubling t))), .d (.int s), .un, .un, .un] (fun Φ' h => hs_set 2 nd (x_ixT (XE.r (x_var 1)) x_int (by exact stD_at (i := 0) (by rw [es]; rfl))) h) ?_
    refine hss_seq [.d t.d, .d (.tup (stD (doubling t))), .d (.int s), .d (lpD (between t (starts t) [s])), .un, .un] (fun Φ' h => hs_set 3 nd (x_call (ok_text_between W) (hr.mono (by omega)) (a_cons (x_var 0) (a_cons (XL.xe (l_lc [("spot", 5)] (.one 5) (List.range t.n) (fun (k : Nat) => .int k) (fun p => decide (0 < t.start.getD p 0)) (fun (k : Nat) => .int k) nd (i_rangeN W.b_range (XE.eq (x_lenT W.b_len (XE.r (x_fld 1 W.cls W.na_start (x_var 0)))) (congrArg D.int lenI)) (by omega)) (blkOk_by (by kernel_rfl))
      (fun _ _ _ _ _ => g_name 5 nd) (fun q hq => ⟨_, rfl, fun _ _ _ _ _ => ts_one (t_gt (x_ixT (XE.r (x_fld 1 W.cls W.na_start (x_var 0))) (x_var 5) (row_at (List.mem_range.mp hq))) x_int), fun _ _ _ _ _ _ => x_var 5⟩) (by rw [List.length_range]; omega))) (a_cons (XL.xe (l_lst (a_cons (x_var 2) a_nil))) a_nil))) ⟨t, starts t, [s], ok, starts_lt, by omega, rfl, rfl⟩) h) ?_
    refine hss_seq [.d t.d, .d (.tup (stD (doubling t))), .d (.int s), .d (lpD (between t (starts t) [s])), .d (lpD (between t [s] (goals t))), .un] (fun Φ' h => hs_set 4 nd (x_call (ok_text_between W) (hr.mono (by omega)) (a_cons (x_var 0) (a_cons (XL.xe (l_lst (a_cons (x_var 2) a_nil))) (a_cons (XL.xe (l_lc [("spot", 5)] (.one 5) (List.range t.n) (fun (k : Nat) => .int k) (fun p => decide (0 < t.ends.getD p 0)) (fun (k : Nat) => .int k) nd (i_rangeN W.b_range (XE.eq (x_lenT W.b_len (XE.r (x_fld 1 W.cls W.na_start (x_var 0)))) (congrArg D.int lenI)) (by omega)) (blkOk_by (by kernel_rfl))
      (fun _ _ _ _ _ => g_name 5 nd) (fun q hq => ⟨_, rfl, fun _ _ _ _ _ => ts_one (t_gt (x_ixT (XE.r (x_fld 3 W.cls W.na_ends (x_var 0))) (x_var 5) (row_at (by rw [ok.ends]; exact List.mem_range.mp hq))) x_int), fun _ _ _ _ _ _ => x_var 5⟩) (by rw [List.length_range]; omega))) a_nil))) ⟨t, [s], goals t, ok, fun q hq => by rw [List.mem_singleton.mp hq]; exact hs, by simp, rfl, rfl⟩) h) ?_
    refine hss_one (hs_ret (x_tup (a_cons x_str (a_cons (x_var 3) (a_cons (x_var 2) (a_cons (x_call (ok_doubling_loop W) (hr.mono (by omega)) (a_cons (x_var 0) (a_cons (x_var 2) a_nil)) ⟨t, s, ok, hs, rfl, rfl⟩) (a_cons (x_var 4) a_nil)))))) ?_)
    show _ = dPaperD t
    unfold dPaperD
    rw [es]
def pre_turn_of (ds : List D) (x : D) : Prop := ∃ (t : Tal) (s : Nat), t.Ok ∧ s < t.n ∧ ds = [t.d, .int s] ∧ x = .lst (stD (turn t s))
theorem one_lt {n s : Nat} (h : s < n) : ∀ q ∈ [s], q < n := fun q hq => by rw [List.mem_singleton.mp hq]; exact h
theorem sc_turn_of : FnScope ["tally", "state", "spot"] ["tally", "state"] (defScope s_turn_of) := ⟨rfl, rfl, rfl, by decide +kernel, rfl, by decide +kernel, by decide +kernel⟩
theorem ok_turn_of (W : Wd K mg) : Fn P w K mg base "turn_of" 3 ["tally", "state"] (FSp (TA K) pre_turn_of) := by
  refine mk_fn (d := d_turn_of) W 29 24 rfl rfl rfl rfl rfl sc_turn_of (fun ds x h => by obtain ⟨t, s, ok, hs, rfl, rfl⟩ := h; rfl) (fun _ _ _ _ _ _ us hl => match us, hl with | [_, _], _ => rfl) fun f cdv A outer s0 H E Z ds x hp hr => ?_
  obtain ⟨t, s, ok, hs, rfl, rfl⟩ := hp
  have nd := sc_turn_of.nd
  have l1 := ok.sml
  have lm : (reached t [s]).length ≤ t.n := reached_len
  exact hss_one (hs_ret (XL.xe (l_lc [("spot", 2)] (.one 2) (reached t [s]) (fun (k : Nat) => .int k) (fun q => decide (s ∈ reached t [q])) (fun (k : Nat) => .int k) nd (i_list (x_call (ok_reached W) (hr.mono (by omega)) (a_cons (x_var 0) (a_cons (XL.xe (l_lst (a_cons (x_var 1) a_nil))) a_nil)) ⟨t, [s], ok, one_lt hs, by simp, rfl, rfl⟩)) (blkOk_by (by kernel_rfl))
      (fun _ _ _ _ _ => g_name 2 nd) (fun q hq => ⟨_, rfl, fun _ _ _ _ _ => ts_one (XT.eq (t_inL (ns := (reached t [q]).map fun (k : Nat) => (k : Int)) (x_var 1) (XE.r (XE.eq (x_call (ok_reached W) (hr.mono (by omega)) (a_cons (x_var 0) (a_cons (XL.xe (l_lst (a_cons (x_var 2) a_nil))) a_nil)) ⟨t, [q], ok, one_lt (reached_lt hq), by simp, rfl, rfl⟩) (by rw [stD_ints])))) (decide_eq_decide.mpr mem_ints)), fun _ _ _ _ _ _ => x_var 2⟩) (by omega))) rfl)
def pre_steps_within (ds : List D) (x : D) : Prop := ∃ (t : Tal) (s : Nat) (lot : List Nat), t.Ok ∧ s < t.n ∧ ds = [t.d, .int s, .lst (stD lot)] ∧ x = wiD t s lot
abbrev wnK (ns : List (Nat × List Nat)) : List Key := ns.map fun z => (Sum.inr (sg z.1) : Key)
abbrev wnV (ns : List (Nat × List Nat)) : List D := ns.map fun z => D.lst (stD z.2)
theorem wn_get {ns : List (Nat × List Nat)} {q : Nat} {l : List Nat} (nd : (ns.map (·.1)).Nodup) (h : (q, l) ∈ ns) : dGet ((wnK ns).zip (wnV ns)) (Sum.inr (sg q)) = some (.lst (stD l)) := d_get (kf := fun (k : Nat) => (Sum.inr (sg k) : Key)) (vf := fun v => D.lst (stD v)) sgK_inj nd h
def wnOf (t : Tal) (lot : List Nat) (ss : List (Nat × Nat × Int)) : List (Nat × List Nat) := t.dg.map fun c => (c, (ss.filter fun z => decide (z.1 = c) && decide (z.2.1 ∈ lot)).map fun z => z.2.1)
theorem wnOf_keys {t : Tal} {lot : List Nat} {ss : List (Nat × Nat × Int)} : (wnOf t lot ss).map (·.1) = t.dg := by unfold wnOf; rw [List.map_map]; exact List.map_id _
theorem wnK_eq {t : Tal} {lot : List Nat} {ss : List (Nat × Nat × Int)} : wnK (wnOf t lot ss) = wiK t := by
  unfold wnOf
  show List.map _ (List.map _ _) = List.map _ _
  rw [List.map_map]
  rfl
theorem wnV_eq {t : Tal} {lot : List Nat} {ss : List (Nat × Nat × Int)} : wnV (wnOf t lot ss) = t.dg.map fun c => D.lst (stD ((ss.filter fun z => decide (z.1 = c) && decide (z.2.1 ∈ lot)).map fun z => z.2.1)) := by
  unfold wnOf
  show List.map _ (List.map _ _) = List.map _ _
  rw [List.map_map]
  rfl
theorem sc_steps_within : FnScope ["tally", "state", "lot", "found", "digit", "spot", "number"] ["tally", "state", "lot"] (defScope s_steps_within) := ⟨rfl, rfl, rfl, by decide +kernel, rfl, by decide +kernel, by decide +kernel⟩
theorem ok_steps_within (W : Wd K mg) : Fn P w K mg base "steps_within" 2 ["tally", "state", "lot"] (FSp (TA K) pre_steps_within) := by
  refine mk_fn (d := d_steps_within) W 30 25 rfl rfl rfl rfl rfl sc_steps_within (fun ds x h => by obtain ⟨t, s, lot, ok, hs, rfl, rfl⟩ := h; rfl) (fun _ _ _ _ _ _ us hl => match us, hl with | [_, _, _], _ => rfl) fun f cdv A outer s0 H E Z ds x hp hr => ?_
  obtain ⟨t, s, lot, ok, hs, rfl, rfl⟩ := hp
  have nd := sc_steps_within.nd
  have hu := hr.units
  have l1 := ok.sml
  have l2 := ok.dlen
  have l3 := steps_len ok hs
  refine hss_seq [.d t.d, .d (.int s), .d (.lst (stD lot)), .M [] [], .un, .un, .un] (fun Φ' h => hs_setM 3 nd m_dict0 h) ?_
  refine hss_cons (fun d => ∃ a : LV, d = [.d t.d, .d (.int s), .d (.lst (stD lot)), .M (wnK (wnOf t lot [])) (wnV (wnOf t lot [])), a, .un, .un])
    (hs_forT (t := .one 4) t.dg (fun c => D.str (sg c)) (fun i d => ∃ a : LV, d = [.d t.d, .d (.int s), .d (.lst (stD lot)), .M (wnK ((t.dg.take i).map fun c => (c, []))) (wnV ((t.dg.take i).map fun c => (c, []))), a, .un, .un])
      (XI.eq (i_str (x_fld 0 W.cls W.na_digits (x_var 0))) signs_mkS) (g_name 4 nd) ⟨_, rfl⟩ (fun i d c hc ⟨a, hd⟩ => ?_) (fun d ⟨a, hd⟩ => ⟨a, by rw [hd, List.take_length]; rfl⟩)) fun d ⟨a, hd⟩ => ?_
  · subst hd
    refine ⟨_, rfl, ?_⟩
    have hnew : dHas (wnK ((t.dg.take i).map fun c => (c, []))) (Sum.inr (sg c)) = false := by
      have := d_has (kf := fun (k : Nat) => (Sum.inr (sg k) : Key)) sgK_inj (ns := (t.dg.take i).map fun c => (c, ([] : List Nat))) (q := c)
      rw [this]
      refine decide_eq_false fun h => ?_
      have ek : ((t.dg.take i).map fun c => (c, ([] : List Nat))).map (·.1) = t.dg.take i := by rw [List.map_map]; exact List.map_id _
      rw [ek] at h
      have nd' := ok.dnd
      have e : t.dg = t.dg.take i ++ t.dg.drop i := (List.take_append_drop i t.dg).symm
      have hc2 : c ∈ t.dg.drop i := List.mem_of_getElem? (i := 0) (by rw [List.getElem?_drop, Nat.add_zero]; exact hc)
      rw [e] at nd'
      exact (List.nodup_append.mp nd').2.2 c h c hc2 rfl
    refine hss_one (hs_dput 3 (k := Sum.inr (sg c)) (by omega) (XL.xe (l_lst a_nil)) (x_var 4) rfl rfl (by rw [List.length_map, List.length_map, List.length_take]; omega) ⟨.d (.str (sg c)), ?_⟩)
    rw [d_new hnew, take_map (f := fun c => (c, ([] : List Nat))) hc]
    have e1 : wnK ((t.dg.take i).map (fun c => (c, ([] : List Nat))) ++ [(c, [])]) = wnK ((t.dg.take i).map fun c => (c, [])) ++ [Sum.inr (sg c)] := List.map_append
    have e2 : wnV ((t.dg.take i).map (fun c => (c, ([] : List Nat))) ++ [(c, [])]) = wnV ((t.dg.take i).map fun c => (c, [])) ++ [.lst []] := List.map_append
    rw [e1, e2]
    rfl
  · subst hd
    refine hss_cons (fun d => ∃ a b c : LV, d = [.d t.d, .d (.int s), .d (.lst (stD lot)), .M (wnK (wnOf t lot (stepsOf t s))) (wnV (wnOf t lot (stepsOf t s))), a, b, c])
      (hs_forT (t := .tup [4, 5, 6]) (stepsOf t s) stepD (fun i d => ∃ a b c : LV, d = [.d t.d, .d (.int s), .d (.lst (stD lot)), .M (wnK (wnOf t lot ((stepsOf t s).take i))) (wnV (wnOf t lot ((stepsOf t s).take i))), a, b, c])
        (i_list (x_call (ok_steps_of W) (hr.mono (by omega)) (a_cons (x_var 0) (a_cons (x_var 1) a_nil)) ⟨t, s, ok, hs, rfl, rfl⟩)) (g_tup (gs_cons 4 (gs_cons 5 (gs_cons 6 gs_nil nd) nd) nd)) ⟨_, _, _, rfl⟩ (fun i d y hy ⟨a, b, c, hd⟩ => ?_) (fun d ⟨a, b, c, hd⟩ => ⟨a, b, c, by rw [hd, List.take_length]⟩)) fun d ⟨a, b, c, hd⟩ => ?_
    · subst hd
      refine ⟨_, rfl, ?_⟩
      obtain ⟨c, q, n⟩ := y
      obtain ⟨hc, hq, _⟩ := (mem_steps ok hs).mp (List.mem_of_getElem? hy)
      refine hss_one (hs_if (t_inL (ns := lot.map fun (k : Nat) => (k : Int)) (x_var 5) (XE.r (XE.eq (x_var 2) (by rw [stD_ints])))) (fun e => ?_) fun e => ?_)
      · have hq' : decide (q ∈ lot) = true := by rw [← decide_eq_decide.mpr (mem_ints (l := lot) (k := q))]; exact e
        have hm : (c, ((((stepsOf t s).take i).filter fun z => decide (z.1 = c) && decide (z.2.1 ∈ lot)).map fun z => z.2.1)) ∈ wnOf t lot ((stepsOf t s).take i) := List.mem_map.mpr ⟨c, hc, rfl⟩
        have hk : ((wnOf t lot ((stepsOf t s).take i)).map (·.1)).Nodup := by rw [wnOf_keys]; exact ok.dnd
        have fl := List.length_filter_le (fun z : Nat × Nat × Int => decide (z.1 = c) && decide (z.2.1 ∈ lot)) ((stepsOf t s).take i)
        rw [List.length_take] at fl
        refine hss_one (hs_dput 3 (k := Sum.inr (sg c)) (by omega) (XL.xe (l_catL (XE.r (x_dget (by omega) (o_M 3) (x_var 4) rfl (wn_get hk hm))) (XE.r (XL.xe (l_lst (a_cons (x_var 5) a_nil)))) (sl_ok (by unfold stD; rw [List.length_map, List.length_map]; show _ + 1 ≤ _; omega)))) (x_var 4) rfl rfl (by unfold wnOf; rw [List.length_map, List.length_map]; omega) ⟨.d (.str (sg c)), .d (.int q), .d (.int n), ?_⟩)
        have old := d_old (kf := fun (k : Nat) => (Sum.inr (sg k) : Key)) (vf := fun v => D.lst (stD v)) sgK_inj (ns := wnOf t lot ((stepsOf t s).take i)) (q := c) (v := ((((stepsOf t s).take i).filter fun z => decide (z.1 = c) && decide (z.2.1 ∈ lot)).map fun z => z.2.1) ++ [q]) (by rw [wnOf_keys]; exact hc)
        have ed : D.lst (stD (((((stepsOf t s).take i).filter fun z => decide (z.1 = c) && decide (z.2.1 ∈ lot)).map fun z => z.2.1) ++ [q])) = D.lst (stD ((((stepsOf t s).take i).filter fun z => decide (z.1 = c) && decide (z.2.1 ∈ lot)).map fun z => z.2.1) ++ [D.int q]) := by unfold stD; rw [List.map_append]; rfl
        rw [ed] at old
        rw [old]
        have ek : wnK (wnOf t lot ((stepsOf t s).take i)) = wnK (wnOf t lot ((stepsOf t s).take (i + 1))) := wnK_eq.trans wnK_eq.symm
        have ev : ((wnOf t lot ((stepsOf t s).take i)).map fun z => if z.1 = c then D.lst (stD ((((stepsOf t s).take i).filter fun z => decide (z.1 = c) && decide (z.2.1 ∈ lot)).map fun z => z.2.1) ++ [D.int q]) else D.lst (stD z.2)) = wnV (wnOf t lot ((stepsOf t s).take (i + 1))) := by
          rw [wnV_eq]
          unfold wnOf
          rw [List.map_map]
          refine List.map_congr_left fun d _ => ?_
          show (if d = c then _ else _) = D.lst (stD _)
          by_cases hdc : d = c
          · subst hdc
            rw [if_pos rfl, ← ed, take_filt hy, if_pos (by simp at hq' ⊢; exact hq'), List.map_append]
            rfl
          · rw [if_neg hdc, take_filt hy, if_neg (by simp; intro h; exact absurd h.symm hdc), List.append_nil]
        rw [← ek, ← ev]
        rfl
      · have hq' : decide (q ∈ lot) = false := by rw [← decide_eq_decide.mpr (mem_ints (l := lot) (k := q))]; exact e
        have ek : wnOf t lot ((stepsOf t s).take (i + 1)) = wnOf t lot ((stepsOf t s).take i) := by
          unfold wnOf
          refine List.map_congr_left fun d _ => ?_
          rw [take_filt hy, if_neg (by simp at hq' ⊢; intro _; exact hq'), List.append_nil]
        exact hss_nil ⟨.d (.str (sg c)), .d (.int q), .d (.int n), by rw [ek]; rfl⟩
    · subst hd
      refine hss_frM 3 (hss_one (hs_ret (x_var 3) ?_))
      show D.dk _ _ = wiD t s lot
      rw [wnK_eq, wnV_eq]
      rfl
def pre_triples (ds : List D) (x : D) : Prop := ∃ (xs ys zs : List Nat), xs.length ≤ 27 ∧ ys.length ≤ 27 ∧ zs.length ≤ 27 ∧ ds = [.lst (stD xs), .lst (stD ys), .lst (stD zs)] ∧ x = .lst ((triples xs ys zs).map triD)
theorem flat_le {α β : Type} {f : α → List β} {n : Nat} : ∀ {xs : List α}, (∀ x ∈ xs, (f x).length ≤ n) → (xs.flatMap f).length ≤ xs.length * n
  | [], _ => by simp
  | y :: xs, hl => by
    have i := flat_le (xs := xs) fun x hx => hl x (List.mem_cons_of_mem _ hx)
    have := hl y List.mem_cons_self
    rw [List.flatMap_cons, List.length_append, List.length_cons, Nat.succ_mul]
    omega
theorem sc_triples : FnScope ["firsts", "seconds", "thirds", "found", "one", "other", "third"] ["firsts", "seconds", "thirds"] (defScope s_triples) := ⟨rfl, rfl, rfl, by decide +kernel, rfl, by decide +kernel, by decide +kernel⟩
theorem ok_triples (W : Wd K mg) : Fn P w K mg base "triples" 1 ["firsts", "seconds", "thirds"] (FSp (TA K) pre_triples) := by
  refine mk_fn (d := d_triples) W 32 27 rfl rfl rfl rfl rfl sc_triples (fun ds x h => by obtain ⟨xs, ys, zs, lx, ly, lz, rfl, rfl⟩ := h; rfl) (fun _ _ _ _ _ _ us hl => match us, hl with | [_, _, _], _ => rfl) fun f cdv A outer s0 H E Z ds x hp hr => ?_
  obtain ⟨xs, ys, zs, lx, ly, lz, rfl, rfl⟩ := hp
  have nd := sc_triples.nd
  let g := fun a : Nat => fun b : Nat => zs.map fun c => (a, b, c)
  let f := fun a : Nat => ys.flatMap (g a)
  have bg : ∀ a (l : List Nat), l.length ≤ 27 → (l.flatMap (g a)).length ≤ 27 * 27 := fun a l hl => by
    have := flat_le (f := g a) (n := 27) (xs := l) fun b _ => by show (zs.map _).length ≤ _; rw [List.length_map]; exact lz
    have := Nat.mul_le_mul_right 27 hl
    omega
  have bf : ∀ (l : List Nat), l.length ≤ 27 → (l.flatMap f).length ≤ 27 * (27 * 27) := fun l hl => by
    have := flat_le (f := f) (n := 27 * 27) (xs := l) fun b _ => bg b ys ly
    have := Nat.mul_le_mul_right (27 * 27) hl
    omega
  have lt27 : ∀ (l : List Nat) i, l.length ≤ 27 → (l.take i).length ≤ 27 := fun l i h => by rw [List.length_take]; omega
  refine hss_seq [.d (.lst (stD xs)), .d (.lst (stD ys)), .d (.lst (stD zs)), .L [], .un, .un, .un] (fun Φ' h => hs_setL 3 nd (l_lst a_nil) h) ?_
  refine hss_cons (fun d => ∃ a b : LV, d = [.d (.lst (stD xs)), .d (.lst (stD ys)), .d (.lst (stD zs)), .L ((triples xs ys zs).map triD), a, b, .un])
    (hs_forT (t := .one 4) xs (fun (k : Nat) => .int k) (fun i d => ∃ a b : LV, d = [.d (.lst (stD xs)), .d (.lst (stD ys)), .d (.lst (stD zs)), .L (((xs.take i).flatMap f).map triD), a, b, .un])
      (i_list (x_var 0)) (g_name 4 nd) ⟨_, _, rfl⟩ (fun i d p hp ⟨a, b, hd⟩ => ?_) (fun d ⟨a, b, hd⟩ => ⟨a, b, by rw [hd, List.take_length]; rfl⟩)) fun d ⟨a, b, hd⟩ => ?_
  · subst hd
    refine ⟨_, rfl, ?_⟩
    refine hss_one (hs_forT (t := .one 5) ys (fun (k : Nat) => .int k) (fun j d => ∃ b : LV, d = [.d (.lst (stD xs)), .d (.lst (stD ys)), .d (.lst (stD zs)), .L (((xs.take i).flatMap f ++ (ys.take j).flatMap (g p)).map triD), .d (.int p), b, .un])
      (i_list (x_var 1)) (g_name 5 nd) ⟨_, by simp [List.append_nil]; rfl⟩ (fun j d q hq ⟨b, hd⟩ => ?_) (fun d ⟨b, hd⟩ => ⟨.d (.int p), b, hd.trans (by rw [List.take_length, take_flat hp])⟩))
    subst hd
    refine ⟨_, rfl, ?_⟩
    refine hss_one (hs_extend 3 (ys := (g p q).map triD) (XL.xe (XL.eq (l_map [("third", 6)] (.one 6) zs (fun (k : Nat) => .int k) (fun c => triD (p, q, c)) nd (i_list (x_var 2)) (blkOk_by (by kernel_rfl)) (fun _ _ _ _ _ => g_name 6 nd) (fun c hc => ⟨_, rfl, fun _ _ _ _ _ => x_tup (a_cons (x_var 4) (a_cons (x_var 5) (a_cons (x_var 6) a_nil)))⟩) (by omega)) (by show _ = List.map triD (List.map _ zs); rw [List.map_map]; rfl))) rfl (by
      have h1 := bf (xs.take i) (lt27 _ _ lx)
      have h2 := bg p (ys.take j) (lt27 _ _ ly)
      rw [List.length_map, List.length_append, List.length_map]
      show _ + (zs.map _).length ≤ _
      rw [List.length_map]
      omega) ⟨.d (.int q), ?_⟩)
    have ea : (((xs.take i).flatMap f ++ (ys.take (j + 1)).flatMap (g p)).map triD) = (((xs.take i).flatMap f ++ (ys.take j).flatMap (g p)).map triD) ++ (g p q).map triD := by
      rw [take_flat hq, ← List.append_assoc, List.map_append]
    rw [ea]
    rfl
  · subst hd
    exact hss_frL 3 (hss_one (hs_ret (x_var 3) rfl))
end
end Tly
end
section
set_option Elab.async false
set_option linter.all false
set_option maxRecDepth 100000
set_option maxHeartbeats 2000000
namespace Tly
open PySem PySem.Spec PyProof.Rows L2 Dl
theorem wi_get {t : Tal} (h : t.Ok) {s c : Nat} {lot : List Nat} (hc : c ∈ t.dg) : dGet ((wiK t).zip (t.dg.map fun c => D.lst (stD (within t s lot c)))) (Sum.inr (sg c)) = some (.lst (stD (within t s lot c))) := by
  have hm : (c, within t s lot c) ∈ wnOf t lot (stepsOf t s) := List.mem_map.mpr ⟨c, hc, rfl⟩
  have := wn_get (ns := wnOf t lot (stepsOf t s)) (by rw [wnOf_keys]; exact h.dnd) hm
  rw [wnK_eq, wnV_eq] at this
  exact this
def kT (z : Nat × Nat × Nat) : List Int := [z.1, z.2.1, z.2.2]
theorem kT_inj (a b : Nat × Nat × Nat) (h : kT a = kT b) : a = b := by
  obtain ⟨a1, a2, a3⟩ := a
  obtain ⟨b1, b2, b3⟩ := b
  unfold kT at h
  simp only [List.cons.injEq, and_true] at h
  obtain ⟨h1, h2, h3⟩ := h
  have h1 : a1 = b1 := Int.ofNat.inj h1
  have h2 : a2 = b2 := Int.ofNat.inj h2
  have h3 : a3 = b3 := Int.ofNat.inj h3
  rw [h1, h2, h3]
theorem beq_nat {a b : Nat} : ((a : Int) == (b : Int)) = decide (a = b) := Bool.eq_iff_iff.mpr (by rw [beq_iff_eq, decide_eq_true_eq]; exact ⟨fun h => Int.ofNat.inj h, fun h => by rw [h]⟩)
theorem triD_eq {a b : Nat × Nat × Nat} : PyData.eqv (pdD (triD a)) (pdD (triD b)) = decide (a = b) := by
  obtain ⟨a1, a2, a3⟩ := a
  obtain ⟨b1, b2, b3⟩ := b
  unfold triD
  simp only [pdD, pdDs, PyData.eqv, PyData.eqvAll]
  simp [beq_nat]
def twD (ns : List ((Nat × Nat × Nat) × List Nat)) : List D := ns.map fun z => triD z.1
theorem twD_len {ns : List ((Nat × Nat × Nat) × List Nat)} : (twD ns).length = ns.length := List.length_map _
theorem rAll_len {t : Tal} (h : t.Ok) : (rAll t).length ≤ 729 := by
  have l := h.sml
  unfold rAll triples
  have h1 : ∀ a b : Nat, ((List.range t.n).map fun c => (a, b, c)).length ≤ 9 := fun a b => by rw [List.length_map, List.length_range]; exact l
  have h2 : ∀ a : Nat, ((List.range t.n).flatMap fun b => (List.range t.n).map fun c => (a, b, c)).length ≤ 81 := fun a => by
    have := flat_le (f := fun b => (List.range t.n).map fun c => (a, b, c)) (xs := List.range t.n) (n := 9) fun b _ => h1 a b
    rw [List.length_range] at this
    omega
  have := flat_le (f := fun a => (List.range t.n).flatMap fun b => (List.range t.n).map fun c => (a, b, c)) (xs := List.range t.n) (n := 81) fun a _ => h2 a
  rw [List.length_range] at this
  omega
theorem within_len {t : Tal} (h : t.Ok) {s c : Nat} {lot : List Nat} (hs : s < t.n) : (within t s lot c).length ≤ 27 := by
  have := List.length_filter_le (fun z : Nat × Nat × Int => decide (z.1 = c) && decide (z.2.1 ∈ lot)) (stepsOf t s)
  have l := steps_len h hs
  unfold within
  rw [List.length_map]
  omega
theorem midst_lt {t : Tal} {a b : Nat} : ∀ q ∈ midst t a b, q < t.n := fun q hq => reached_lt (List.mem_filter.mp hq).1
section
variable {P : Program} {w : World} {K : PySem.W.Frag} {mg : Str → Option Value} {base : Heap}
def pre_rise_loop (ds : List D) (x : D) : Prop := ∃ (t : Tal) (p q : Nat), t.Ok ∧ p < t.n ∧ q < t.n ∧ ds = [t.d, .int p, .int q] ∧ x = lpD (rLoop t p q)
theorem sc_rise_loop : FnScope ["tally", "one", "other", "near", "far", "between", "start", "texts", "waiting", "at", "here", "firsts", "seconds", "thirds", "digit", "there", "spot"] ["tally", "one", "other"] (defScope s_rise_loop) := ⟨rfl, rfl, rfl, by decide +kernel, rfl, by decide +kernel, by decide +kernel⟩
theorem ok_rise_loop (W : Wd K mg) : Fn P w K mg base "rise_loop" 4 ["tally", "one", "other"] (FSp (TA K) pre_rise_loop) := by
  refine mk_fn (d := d_rise_loop) W 31 26 rfl rfl rfl rfl rfl sc_rise_loop (fun ds x h => by obtain ⟨t, p, q, ok, hp1, hq1, rfl, rfl⟩ := h; rfl) (fun _ _ _ _ _ _ us hl => match us, hl with | [_, _, _], _ => rfl) fun f cdv A outer s0 H E Z ds x hp hr => ?_
  obtain ⟨t, p, q, ok, hp1, hq1, rfl, rfl⟩ := hp
  have nd := sc_rise_loop.nd
  have hu := hr.units
  have l0 := rAll_len ok
  have l1 := ok.sml
  have lm : (reached t [p]).length ≤ t.n := reached_len
  let st : Nat × Nat × Nat := (p, p, q)
  let eg : Nat × Nat × Nat → Bool := fun z => decide (z = (p, q, q))
  let pre6 : List LV := [.d t.d, .d (.int p), .d (.int q), .d (.lst (stD (turn t p))), .d (.lst (stD (turn t q))), .d (.lst (stD (midst t p q))), .d (triD st)]
  refine hss_seq [.d t.d, .d (.int p), .d (.int q), .d (.lst (stD (turn t p))), .d (.lst (stD (turn t q))), .un, .un, .un, .un, .un, .un, .un, .un, .un, .un, .un, .un] (fun Φ' h => hs_par 3 4 nd (.d (x_call (ok_turn_of W) (hr.mono (by omega)) (a_cons (x_var 0) (a_cons (x_var 1) a_nil)) ⟨t, p, ok, hp1, rfl, rfl⟩)) (.d (x_call (ok_turn_of W) (hr.mono (by omega)) (a_cons (x_var 0) (a_cons (x_var 2) a_nil)) ⟨t, q, ok, hq1, rfl, rfl⟩)) h) ?_
  refine hss_seq [.d t.d, .d (.int p), .d (.int q), .d (.lst (stD (turn t p))), .d (.lst (stD (turn t q))), .L (stD (midst t p q)), .un, .un, .un, .un, .un, .un, .un, .un, .un, .un, .un] (fun Φ' h => hs_setLc 5 [("spot", 16)] (.one 16) (reached t [p]) (fun (k : Nat) => .int k) (fun s => decide (q ∈ reached t [s])) (fun (k : Nat) => .int k) nd (i_list (x_call (ok_reached W) (hr.mono (by omega)) (a_cons (x_var 0) (a_cons (XL.xe (l_lst (a_cons (x_var 1) a_nil))) a_nil)) ⟨t, [p], ok, one_lt hp1, by simp, rfl, rfl⟩)) (blkOk_by (by kernel_rfl))
      (fun _ _ _ _ _ => g_name 16 nd) (fun s hs => ⟨_, rfl, fun _ _ _ _ _ => ts_one (XT.eq (t_inL (ns := (reached t [s]).map fun (k : Nat) => (k : Int)) (x_var 2) (XE.r (XE.eq (x_call (ok_reached W) (hr.mono (by omega)) (a_cons (x_var 0) (a_cons (XL.xe (l_lst (a_cons (x_var 16) a_nil))) a_nil)) ⟨t, [s], ok, one_lt (reached_lt hs), by simp, rfl, rfl⟩) (by rw [stD_ints])))) (decide_eq_decide.mpr mem_ints)), fun _ _ _ _ _ _ => x_var 16⟩) (by omega) h) ?_
  refine hss_frL 5 ?_
  refine hss_seq (pre6 ++ [.un, .un, .un, .un, .un, .un, .un, .un, .un, .un]) (fun Φ' h => hs_set 6 nd (x_tup (a_cons (x_var 1) (a_cons (x_var 1) (a_cons (x_var 2) a_nil)))) h) ?_
  refine hss_seq (pre6 ++ [.T (kvsOf kT [(st, [])]), .L [triD st], .d (.int ((0 : Nat) : Int)), .un, .un, .un, .un, .un, .un, .un]) (fun Φ' h => hs_par3 7 8 9 nd (vs_cons (XTd.v (td_one (k := kT st) hu (x_var 6) x_str rfl)) (vs_cons (XL.v (l_lst (a_cons (x_var 6) a_nil))) (vs_cons (XE.v x_int) vs_nil))) h) ?_
  refine hss_cons (fun d => rLoop t p q = none)
    (hs_while (fun m d => ∃ (ns : List ((Nat × Nat × Nat) × List Nat)) (at' : Nat) (b1 b2 b3 b4 b5 b6 : LV), Gm.Kp (rAll t) ns ∧ at' ≤ ns.length ∧ at' + m = (rAll t).length + 1 ∧ Gm.bfs (fun _ => false) eg (rSucc t p q) m ns at' = rLoop t p q ∧ d = pre6 ++ [.T (kvsOf kT ns), .L (twD ns), .d (.int (at' : Nat)), b1, b2, b3, b4, b5, b6, .un]) ((rAll t).length + 1)
      ⟨[(st, [])], 0, _, _, _, _, _, _, r_kp hp1 hq1, by simp, by omega, rfl, rfl⟩ fun m d ⟨ns, at', b1, b2, b3, b4, b5, b6, Kk, hat, hm, hb, hd⟩ => ?_) fun d hd => ?_
  · subst hd
    have hlen := Kk.len
    refine ⟨_, t_lt (x_var 9) (x_lenL W.b_len (o_L 8)), fun hq => ?_, fun hq => ?_⟩
    · have hlt : at' < ns.length := by
        have := of_decide_eq_true hq
        rw [twD_len] at this
        omega
      obtain ⟨m, rfl⟩ : ∃ k, m = k + 1 := ⟨m - 1, by omega⟩
      obtain ⟨hh, hhe⟩ : ∃ z, ns[at']? = some z := ⟨_, List.getElem?_eq_getElem hlt⟩
      obtain ⟨hn, txt⟩ := hh
      have hU : hn ∈ rAll t := Kk.sub hn (List.mem_map.mpr ⟨_, List.mem_of_getElem? hhe, rfl⟩)
      obtain ⟨c1, c2, c3⟩ := mem_rAll.mp hU
      have htx := Kk.txt at' hn txt hhe
      let fs := fun c => within t hn.1 (turn t p) c
      let ss := fun c => within t hn.2.1 (midst t p q) c
      let ts := fun c => within t hn.2.2 (turn t q) c
      let gc := fun c : Nat => (triples (fs c) (ss c) (ts c)).map fun y => (c, y)
      let mid : List ((Nat × Nat × Nat) × List Nat) → LV → LV → List LV := fun ns' a b => pre6 ++ [.T (kvsOf kT ns'), .L (twD ns'), .d (.int (at' : Nat)), .d (triD hn), .d (wiD t hn.1 (turn t p)), .d (wiD t hn.2.1 (midst t p q)), .d (wiD t hn.2.2 (turn t q)), a, b, .un]
      refine hss_seq (pre6 ++ [.T (kvsOf kT ns), .L (twD ns), .d (.int (at' : Nat)), .d (triD hn), b2, b3, b4, b5, b6, .un]) (fun Φ' h => hs_set 10 nd (x_ixL (o_L 8) (x_var 9) (atI_nat (by unfold twD; rw [List.getElem?_map, hhe]; rfl))) h) ?_
      refine hss_seq (pre6 ++ [.T (kvsOf kT ns), .L (twD ns), .d (.int (at' : Nat)), .d (triD hn), .d (wiD t hn.1 (turn t p)), b3, b4, b5, b6, .un]) (fun Φ' h => hs_set 11 nd (x_call (ok_steps_within W) (hr.mono (by omega)) (a_cons (x_var 0) (a_cons (x_ixT (XE.r (x_var 10)) x_int rfl) (a_cons (x_var 3) a_nil))) ⟨t, hn.1, turn t p, ok, c1, rfl, rfl⟩) h) ?_
      refine hss_seq (pre6 ++ [.T (kvsOf kT ns), .L (twD ns), .d (.int (at' : Nat)), .d (triD hn), .d (wiD t hn.1 (turn t p)), .d (wiD t hn.2.1 (midst t p q)), b4, b5, b6, .un]) (fun Φ' h => hs_set 12 nd (x_call (ok_steps_within W) (hr.mono (by omega)) (a_cons (x_var 0) (a_cons (x_ixT (XE.r (x_var 10)) x_int rfl) (a_cons (x_var 5) a_nil))) ⟨t, hn.2.1, midst t p q, ok, c2, rfl, rfl⟩) h) ?_
      refine hss_seq (mid ns b5 b6) (fun Φ' h => hs_set 13 nd (x_call (ok_steps_within W) (hr.mono (by omega)) (a_cons (x_var 0) (a_cons (x_ixT (XE.r (x_var 10)) x_int rfl) (a_cons (x_var 4) a_nil))) ⟨t, hn.2.2, turn t q, ok, c3, rfl, rfl⟩) h) ?_
      refine hss_cons (fun d => ∃ (ns' : List ((Nat × Nat × Nat) × List Nat)) (a b : LV), Gm.Kp (rAll t) ns' ∧ ns.length ≤ ns'.length ∧ Gm.bfsIn eg txt (rSucc t p q hn) ns = (none, ns') ∧ d = mid ns' a b)
        (hs_forT (t := .one 14) t.dg (fun c => D.str (sg c)) (fun i d => ∃ (ns' : List ((Nat × Nat × Nat) × List Nat)) (a b : LV), Gm.Kp (rAll t) ns' ∧ ns.length ≤ ns'.length ∧ ns'[at']? = some (hn, txt) ∧ Gm.bfsIn eg txt ((t.dg.drop i).flatMap gc) ns' = Gm.bfsIn eg txt (rSucc t p q hn) ns ∧ d = mid ns' a b)
          (XI.eq (i_str (x_fld 0 W.cls W.na_digits (x_var 0))) signs_mkS) (g_name 14 nd) ⟨ns, _, _, Kk, Nat.le_refl _, hhe, rfl, rfl⟩ (fun i d c hci ⟨ns', a, b, Kk', hle, hat', hin, hd⟩ => ?_)
          (fun d ⟨ns', a, b, Kk', hle, hat', hin, hd⟩ => ⟨ns', a, b, Kk', hle, by
            rw [← hin, List.drop_eq_nil_of_le (Nat.le_refl _)]; rfl, hd⟩)) fun d ⟨ns', a, b, Kk', hle, hin, hd⟩ => ?_
      · subst hd
        refine ⟨_, rfl, ?_⟩
        have hc : c ∈ t.dg := List.mem_of_getElem? hci
        have hdo : (t.dg.drop i).flatMap gc = (triples (fs c) (ss c) (ts c)).map (fun y => (c, y)) ++ (t.dg.drop (i + 1)).flatMap gc := by
          have hi := (List.getElem?_eq_some_iff.mp hci).1
          have e := (List.getElem?_eq_some_iff.mp hci).2
          rw [List.drop_eq_getElem_cons hi, e, List.flatMap_cons]
        rw [hdo] at hin
        refine hss_one (hs_forT (t := .one 15) (triples (fs c) (ss c) (ts c)) triD (fun j d => ∃ (ns' : List ((Nat × Nat × Nat) × List Nat)) (b : LV), Gm.Kp (rAll t) ns' ∧ ns.length ≤ ns'.length ∧ ns'[at']? = some (hn, txt) ∧ Gm.bfsIn eg txt (((triples (fs c) (ss c) (ts c)).map (fun y => (c, y))).drop j ++ (t.dg.drop (i + 1)).flatMap gc) ns' = Gm.bfsIn eg txt (rSucc t p q hn) ns ∧ d = mid ns' (.d (.str (sg c))) b)
          (i_list (x_call (ok_triples W) (hr.mono (by omega)) (a_cons (x_dget (by omega) (XE.r (x_var 11)) (x_var 14) rfl (wi_get ok hc)) (a_cons (x_dget (by omega) (XE.r (x_var 12)) (x_var 14) rfl (wi_get ok hc)) (a_cons (x_dget (by omega) (XE.r (x_var 13)) (x_var 14) rfl (wi_get ok hc)) a_nil))) ⟨fs c, ss c, ts c, within_len ok c1, within_len ok c2, within_len ok c3, rfl, rfl⟩))
          (g_name 15 nd) ⟨ns', _, Kk', hle, hat', hin, rfl⟩ (fun j d th hth ⟨ns', b, Kk', hle, hat', hin, hd⟩ => ?_)
          (fun d ⟨ns', b, Kk', hle, hat', hin, hd⟩ => ⟨ns', .d (.str (sg c)), b, Kk', hle, hat', by
            rw [← hin, List.drop_eq_nil_of_le (show ((triples (fs c) (ss c) (ts c)).map (fun y => (c, y))).length ≤ (triples (fs c) (ss c) (ts c)).length by rw [List.length_map]; exact Nat.le_refl _)]; rfl, hd⟩))
        subst hd
        refine ⟨_, rfl, ?_⟩
        rw [drop_at (f := fun y : Nat × Nat × Nat => (c, y)) hth] at hin
        have hthm := List.mem_of_getElem? hth
        obtain ⟨th1, th2, th3⟩ := th
        obtain ⟨m1, m2, m3⟩ := mem_triples.mp hthm
        have q1 := ((mem_within ok c1).mp m1).2.1
        have q2 := ((mem_within ok c2).mp m2).2.1
        have q3 := ((mem_within ok c3).mp m3).2.1
        have hthU : (th1, th2, th3) ∈ rAll t := mem_rAll.mpr ⟨q1, q2, q3⟩
        have hget : tGet (kvsOf kT ns') (kT hn) = some (.str (mkS txt)) := kv_get kT_inj Kk'.nd (List.mem_of_getElem? hat')
        have hlen' := Kk'.len
        have hz : (mkS txt).length + (sg c).length ≤ sizeLine := sl_ok (by rw [mkS_len]; show txt.length + 1 ≤ _; omega)
        refine hss_guard (t_eqD 1 1 hu (XE.r (x_var 15)) (XE.r (x_tup (a_cons (x_var 1) (a_cons (x_var 2) (a_cons (x_var 2) a_nil))))) rfl rfl (triD_eq (a := (th1, th2, th3)) (b := (p, q, q)))) (fun e => ?_) fun e => ?_
        · refine hss_one (hs_ret (XE.eq (x_addS (x_tget 7 (ys := [.int hn.1, .int hn.2.1, .int hn.2.2]) (k := kT hn) hu (x_var 10) rfl rfl hget) (x_var 14) hz) (congrArg D.str mkS_snoc)) ?_)
          have : rLoop t p q = some (txt ++ [c]) := by
            rw [← hb]
            refine bfs_hit hhe rfl ?_
            rw [← hin, List.cons_append, in_hit (eg := eg) (q := (th1, th2, th3)) e]
          rw [this]
          rfl
        · refine hss_one (hs_if (t_tnotin 7 (ys := [.int th1, .int th2, .int th3]) (k := kT (th1, th2, th3)) hu (x_var 15) rfl rfl) (fun e2 => ?_) fun e2 => ?_)
          · have hk : Gm.known ns' (th1, th2, th3) = false := by rw [← kv_has kT_inj]; simpa using e2
            have hnone : tGet (kvsOf kT ns') (kT (th1, th2, th3)) = none := by
              have := kv_has kT_inj (ns := ns') (q := (th1, th2, th3))
              rw [hk] at this
              exact Option.isSome_eq_false_iff.mp this |> Option.isNone_iff_eq_none.mp
            refine hss_seq (pre6 ++ [.T (kvsOf kT (ns' ++ [((th1, th2, th3), txt ++ [c])])), .L (twD ns'), .d (.int (at' : Nat)), .d (triD hn), .d (wiD t hn.1 (turn t p)), .d (wiD t hn.2.1 (midst t p q)), .d (wiD t hn.2.2 (turn t q)), .d (.str (sg c)), .d (triD (th1, th2, th3)), .un]) (fun Φ' h => hs_tput 7 (ys := [.int th1, .int th2, .int th3]) (k := kT (th1, th2, th3)) hu (XE.eq (x_addS (x_tget 7 (ys := [.int hn.1, .int hn.2.1, .int hn.2.2]) (k := kT hn) hu (x_var 10) rfl rfl hget) (x_var 14) hz) (congrArg D.str mkS_snoc)) (x_var 15) rfl rfl hnone (by unfold kvsOf; rw [List.length_map]; omega) (by rw [← kv_snoc]; exact h)) ?_
            refine hss_one (hs_append 8 (x_var 15) rfl (by rw [twD_len]; omega) ⟨ns' ++ [((th1, th2, th3), txt ++ [c])], .d (triD (th1, th2, th3)), Kk'.snoc hthU hk (by rw [List.length_append]; simp; omega), by rw [List.length_append]; omega, by rw [List.getElem?_append_left (List.getElem?_eq_some_iff.mp hat').1]; exact hat', ?_, by
              have ea : twD (ns' ++ [((th1, th2, th3), txt ++ [c])]) = twD ns' ++ [triD (th1, th2, th3)] := List.map_append
              show _ = pre6 ++ [_, .L (twD (ns' ++ [((th1, th2, th3), txt ++ [c])])), _, _, _, _, _, _, _, _]
              rw [ea]
              rfl⟩)
            rw [← hin, List.cons_append, in_new (eg := eg) (q := (th1, th2, th3)) e hk]
          · have hk : Gm.known ns' (th1, th2, th3) = true := by rw [← kv_has kT_inj]; simpa using e2
            exact hss_nil ⟨ns', .d (triD (th1, th2, th3)), Kk', hle, hat', by rw [← hin, List.cons_append, in_old (eg := eg) (q := (th1, th2, th3)) e hk], rfl⟩
      · subst hd
        refine hss_one (hs_aug 9 nd rfl x_int ⟨m, by omega, ns', at' + 1, _, _, _, _, _, _, Kk', by omega, by omega, ?_, rfl⟩)
        rw [← hb]
        exact (bfs_go hhe rfl hin).symm
    · have hge : ns.length ≤ at' := by
        have := of_decide_eq_false hq
        rw [twD_len] at this
        omega
      show rLoop t p q = none
      rw [← hb]
      exact bfs_end hge
  · refine hss_one (hs_ret x_non ?_)
    show D.non = lpD (rLoop t p q)
    rw [hd]; rfl
end
end Tly
end
section
set_option Elab.async false
set_option linter.all false
set_option maxRecDepth 100000
set_option maxHeartbeats 2000000
namespace Tly
open PySem PySem.Spec PyProof.Rows L2 Dl
def riseD (z : Nat × Nat) : D := .tup [.int z.1, .int z.2]
theorem some_len {t : Tal} : (some' t).length ≤ t.n := Nat.le_trans (List.length_filter_le _ _) useful_len
theorem some_lt {t : Tal} {q : Nat} (h : q ∈ some' t) : q < t.n := useful_lt (List.mem_filter.mp h).1
def risesF (t : Tal) (one : Nat) : List (Nat × Nat) := ((some' t).filter fun other => decide (one ≠ other) && decide (other ∈ reached t [one]) && (rLoop t one other).isSome).map fun other => (one, other)
theorem rises_flat {t : Tal} : rises t = (some' t).flatMap (risesF t) := rfl
theorem risesF_len {t : Tal} {one : Nat} : (risesF t one).length ≤ t.n := by
  unfold risesF
  rw [List.length_map]
  exact Nat.le_trans (List.length_filter_le _ _) some_len
theorem rises_len {t : Tal} (h : t.Ok) : (rises t).length ≤ 81 := by
  have l := h.sml
  have := flat_le (f := risesF t) (xs := some' t) (n := 9) fun a _ => Nat.le_trans risesF_len l
  have := some_len (t := t)
  rw [rises_flat]
  omega
theorem take_app {α β : Type} {f : α → List β} {xs : List α} {i : Nat} : xs.flatMap f = (xs.take i).flatMap f ++ (xs.drop i).flatMap f := by rw [← List.flatMap_append, List.take_append_drop]
section
variable {P : Program} {w : World} {K : PySem.W.Frag} {mg : Str → Option Value} {base : Heap}
def pre_rises (ds : List D) (x : D) : Prop := ∃ (t : Tal), t.Ok ∧ ds = [t.d] ∧ x = .tup ((rises t).map riseD)
theorem sc_rises : FnScope ["tally", "some", "found", "one", "onward", "other", "state"] ["tally"] (defScope s_rises) := ⟨rfl, rfl, rfl, by decide +kernel, rfl, by decide +kernel, by decide +kernel⟩
theorem ok_rises (W : Wd K mg) : Fn P w K mg base "rises" 5 ["tally"] (FSp (TA K) pre_rises) := by
  refine mk_fn (d := d_rises) W 33 28 rfl rfl rfl rfl rfl sc_rises (fun ds x h => by obtain ⟨t, ok, rfl, rfl⟩ := h; rfl) (fun _ _ _ _ _ _ us hl => match us, hl with | [_], _ => rfl) fun f cdv A outer s0 H E Z ds x hp hr => ?_
  obtain ⟨t, ok, rfl, rfl⟩ := hp
  have nd := sc_rises.nd
  have l1 := ok.sml
  have l2 := useful_len (t := t)
  have l3 := some_len (t := t)
  have l4 := rises_len ok
  refine hss_seq [.d t.d, .L (stD (some' t)), .un, .un, .un, .un, .un] (fun Φ' h => hs_setLc 1 [("state", 6)] (.one 6) (useful t) (fun (k : Nat) => .int k) (comesBack t) (fun (k : Nat) => .int k) nd (i_tup (x_call (ok_useful W) (hr.mono (by omega)) (a_cons (x_var 0) a_nil) ⟨t, ok, rfl, rfl⟩)) (blkOk_by (by kernel_rfl))
    (fun _ _ _ _ _ => g_name 6 nd) (fun q hq => ⟨_, rfl, fun _ _ _ _ _ => ts_one (XT.eq (t_inL (ns := (reached t (nexts t q)).map fun (k : Nat) => (k : Int)) (x_var 6) (XE.r (XE.eq (x_call (ok_reached W) (hr.mono (by omega)) (a_cons (x_var 0) (a_cons (x_call (ok_nexts W) (hr.mono (by omega)) (a_cons (x_var 0) (a_cons (x_var 6) a_nil)) ⟨t, q, ok, useful_lt hq, rfl, rfl⟩) a_nil)) ⟨t, nexts t q, ok, nexts_lt q, by have := nexts_len (t := t) q; omega, rfl, rfl⟩) (by rw [stD_ints])))) (decide_eq_decide.mpr mem_ints)), fun _ _ _ _ _ _ => x_var 6⟩) (by omega) h) ?_
  refine hss_frL 1 ?_
  refine hss_seq [.d t.d, .d (.lst (stD (some' t))), .L [], .un, .un, .un, .un] (fun Φ' h => hs_setL 2 nd (l_lst a_nil) h) ?_
  refine hss_cons (fun d => ∃ a b c : LV, d = [.d t.d, .d (.lst (stD (some' t))), .L ((rises t).map riseD), a, b, c, .un])
    (hs_forT (t := .one 3) (some' t) (fun (k : Nat) => .int k) (fun i d => ∃ a b c : LV, d = [.d t.d, .d (.lst (stD (some' t))), .L ((((some' t).take i).flatMap (risesF t)).map riseD), a, b, c, .un])
      (i_list (x_var 1)) (g_name 3 nd) ⟨_, _, _, rfl⟩ (fun i d p hp ⟨a, b, c, hd⟩ => ?_) (fun d ⟨a, b, c, hd⟩ => ⟨a, b, c, by rw [hd, List.take_length]; rfl⟩)) fun d ⟨a, b, c, hd⟩ => ?_
  · subst hd
    refine ⟨_, rfl, ?_⟩
    have hpl := some_lt (List.mem_of_getElem? hp)
    have la : (((some' t).take i).flatMap (risesF t)).length ≤ 81 := by
      have : rises t = _ := take_app (f := risesF t) (xs := some' t) (i := i)
      rw [this, List.length_append] at l4
      omega
    refine hss_seq [.d t.d, .d (.lst (stD (some' t))), .L ((((some' t).take i).flatMap (risesF t)).map riseD), .d (.int p), .d (.lst (stD (reached t [p]))), c, .un] (fun Φ' h => hs_set 4 nd (x_call (ok_reached W) (hr.mono (by omega)) (a_cons (x_var 0) (a_cons (XL.xe (l_lst (a_cons (x_var 3) a_nil))) a_nil)) ⟨t, [p], ok, one_lt hpl, by simp, rfl, rfl⟩) h) ?_
    let pr := fun other => decide (p ≠ other) && decide (other ∈ reached t [p]) && (rLoop t p other).isSome
    refine hss_one (hs_forT (t := .one 5) (some' t) (fun (k : Nat) => .int k) (fun j d => ∃ c : LV, d = [.d t.d, .d (.lst (stD (some' t))), .L ((((some' t).take i).flatMap (risesF t) ++ (((some' t).take j).filter pr).map fun other => (p, other)).map riseD), .d (.int p), .d (.lst (stD (reached t [p]))), c, .un])
      (i_list (x_var 1)) (g_name 5 nd) ⟨_, by simp [List.append_nil]; rfl⟩ (fun j d q hq ⟨c, hd⟩ => ?_) (fun d ⟨c, hd⟩ => ⟨.d (.int p), .d (.lst (stD (reached t [p]))), c, hd.trans (by rw [List.take_length, take_flat hp]; rfl)⟩))
    subst hd
    refine ⟨_, rfl, ?_⟩
    have hql := some_lt (List.mem_of_getElem? hq)
    refine hss_one (hs_if (XT.eq (XW.t (w_and (t_ne (x_var 3) (x_var 5)) fun _ => w_and (t_inL (ns := (reached t [p]).map fun (k : Nat) => (k : Int)) (x_var 5) (XE.r (XE.eq (x_var 4) (by rw [stD_ints])))) fun _ => w_and1 (t_notN (x_call (ok_rise_loop W) (hr.mono (by omega)) (a_cons (x_var 0) (a_cons (x_var 3) (a_cons (x_var 5) a_nil))) ⟨t, p, q, ok, hpl, hql, rfl, rfl⟩)))) (show _ = pr q by
      rw [vnat_eq, decide_eq_decide.mpr mem_ints, ← decide_not, ← Bool.and_assoc]
      show _ = (decide (p ≠ q) && decide (q ∈ reached t [p]) && (rLoop t p q).isSome)
      congr 1
      cases rLoop t p q <;> rfl)) (fun e => ?_) fun e => ?_)
    · refine hss_one (hs_append 2 (x_tup (a_cons (x_var 3) (a_cons (x_var 5) a_nil))) rfl (by
        have h1 := List.length_filter_le pr ((some' t).take j)
        rw [List.length_take] at h1
        rw [List.length_map, List.length_append, List.length_map]
        omega) ⟨.d (.int q), ?_⟩)
      have ea : ((((some' t).take i).flatMap (risesF t) ++ (((some' t).take (j + 1)).filter pr).map fun other => (p, other)).map riseD) = ((((some' t).take i).flatMap (risesF t) ++ (((some' t).take j).filter pr).map fun other => (p, other)).map riseD) ++ [riseD (p, q)] := by
        rw [take_filt hq, if_pos e]
        simp only [List.map_append, List.append_assoc]
        rfl
      rw [ea]
      rfl
    · exact hss_nil ⟨.d (.int q), by rw [take_filt hq, if_neg (by rw [e]; exact Bool.noConfusion), List.append_nil]; rfl⟩
  · subst hd
    exact hss_frL 2 (hss_one (hs_ret (x_tupL W.b_tuple (XE.r (x_var 2))) rfl))
end
/-! ### levels -/
abbrev lvK (U : List Nat) : List Key := U.map fun (p : Nat) => (Sum.inl (p : Int) : Key)
abbrev lvV (U : List Nat) (f : Nat → Int) : List D := U.map fun p => D.int (f p)
theorem lv_get {U : List Nat} {f : Nat → Int} {p : Nat} (h : p ∈ U) : dGet ((lvK U).zip (lvV U f)) (Sum.inl (p : Int)) = some (.int (f p)) := by
  induction U with
  | nil => cases h
  | cons a U ih =>
    unfold dGet
    show Option.map (·.2) (List.find? _ ((Sum.inl (a : Int), D.int (f a)) :: (lvK U).zip (lvV U f))) = _
    rw [List.find?_cons]
    by_cases e : a = p
    · subst e; simp
    · have : decide ((Sum.inl (a : Int) : Key) = Sum.inl (p : Int)) = false := decide_eq_false fun z => e (inlN_inj _ _ z)
      show Option.map (fun x => x.2) (match decide ((Sum.inl (a : Int) : Key) = Sum.inl (p : Int)) with | true => some ((Sum.inl (a : Int) : Key), D.int (f a)) | false => List.find? (fun q => decide (q.1 = (Sum.inl (p : Int) : Key))) ((lvK U).zip (lvV U f))) = _
      rw [this]
      exact ih ((List.mem_cons.mp h).resolve_left fun z => e z.symm)
theorem lv_has {U : List Nat} {p : Nat} : dHas (lvK U) (Sum.inl (p : Int)) = decide (p ∈ U) := by
  unfold dHas
  rw [Bool.eq_iff_iff, List.any_eq_true, decide_eq_true_eq]
  constructor
  · rintro ⟨k, hk, e⟩
    obtain ⟨z, hz, rfl⟩ := List.mem_map.mp hk
    exact inlN_inj _ _ (of_decide_eq_true e) ▸ hz
  · exact fun h => ⟨_, List.mem_map.mpr ⟨p, h, rfl⟩, by simp⟩
theorem lv_put {U : List Nat} {f : Nat → Int} {p : Nat} {v : Int} (h : p ∈ U) : dPut (lvK U) (lvV U f) (Sum.inl (p : Int)) (.int v) = .M (lvK U) (lvV U (upd f p v)) := by
  unfold dPut
  rw [lv_has, decide_eq_true h]
  show LV.M _ _ = LV.M _ _
  congr 1
  show List.map _ ((U.map _).zip (U.map _)) = _
  rw [List.zip_map', List.map_map]
  refine List.map_congr_left fun z _ => ?_
  show (if (Sum.inl (z : Int) : Key) = Sum.inl (p : Int) then D.int v else D.int (f z)) = D.int (upd f p v z)
  unfold upd
  by_cases e : z = p
  · rw [if_pos (by rw [e]), if_pos e]
  · rw [if_neg fun h => e (inlN_inj _ _ h), if_neg e]
def movD (z : Nat × Nat × Int) : D := .tup [.int z.1, .int z.2.1, .int z.2.2]
noncomputable def lvlD (t : Tal) : D := .dk (lvK (useful t)) (lvV (useful t) (lv t))
def movF (t : Tal) (s : Nat) : List (Nat × Nat × Int) := ((nexts t s).filter fun q => decide (q ∈ useful t)).map fun q => (s, q, 0)
theorem movF_len {t : Tal} {s : Nat} : (movF t s).length ≤ t.n := by
  unfold movF
  rw [List.length_map]
  exact Nat.le_trans (List.length_filter_le _ _) (nexts_len s)
theorem mov_len {t : Tal} (h : t.Ok) {l : List Nat} (hl : l.length ≤ 9) : (l.flatMap (movF t)).length ≤ 81 := by
  have l1 := h.sml
  have := flat_le (f := movF t) (xs := l) (n := 9) fun a _ => Nat.le_trans movF_len l1
  omega
section
variable {P : Program} {w : World} {K : PySem.W.Frag} {mg : Str → Option Value} {base : Heap}
def pre_least_levels (ds : List D) (x : D) : Prop := ∃ (t : Tal), t.Ok ∧ Gm.NoDbl (gph t) ∧ ds = [t.d, .tup ((rises t).map riseD)] ∧ x = lvlD t
theorem sc_least_levels : FnScope ["tally", "pairs", "some", "levels", "moves", "state", "changed", "one", "other", "rise", "spot"] ["tally", "pairs"] (defScope s_least_levels) := ⟨rfl, rfl, rfl, by decide +kernel, rfl, by decide +kernel, by decide +kernel⟩
theorem ok_least_levels (W : Wd K mg) : Fn P w K mg base "least_levels" 4 ["tally", "pairs"] (FSp (TA K) pre_least_levels) := by
  refine mk_fn (d := d_least_levels) W 34 29 rfl rfl rfl rfl rfl sc_least_levels (fun ds x h => by obtain ⟨t, ok, ndb, rfl, rfl⟩ := h; rfl) (fun _ _ _ _ _ _ us hl => match us, hl with | [_, _], _ => rfl) fun f cdv A outer s0 H E Z ds x hp hr => ?_
  obtain ⟨t, ok, ndb, rfl, rfl⟩ := hp
  have nd := sc_least_levels.nd
  have hu := hr.units
  have hu1 := Nat.lt_of_le_of_lt (Nat.add_le_add_left (show 1 ≤ 64 by decide) _) hu
  have l1 := ok.sml
  have l2 := useful_len (t := t)
  have l4 := rises_len ok
  refine hss_seq [.d t.d, .d (.tup ((rises t).map riseD)), .d (.tup (stD (useful t))), .un, .un, .un, .un, .un, .un, .un, .un] (fun Φ' h => hs_set 2 nd (x_call (ok_useful W) (hr.mono (by omega)) (a_cons (x_var 0) a_nil) ⟨t, ok, rfl, rfl⟩) h) ?_
  refine hss_seq [.d t.d, .d (.tup ((rises t).map riseD)), .d (.tup (stD (useful t))), .M [] [], .L [], .un, .un, .un, .un, .un, .un] (fun Φ' h => hs_parT 3 4 nd (vs_cons (XM.v m_dict0) (vs_cons (XL.v (l_lst a_nil)) vs_nil)) h) ?_
  refine hss_cons (fun d => ∃ a : LV, d = [.d t.d, .d (.tup ((rises t).map riseD)), .d (.tup (stD (useful t))), .M (lvK (useful t)) (lvV (useful t) fun _ => 0), .L [], a, .un, .un, .un, .un, .un])
    (hs_forT (t := .one 5) (useful t) (fun (k : Nat) => .int k) (fun i d => ∃ a : LV, d = [.d t.d, .d (.tup ((rises t).map riseD)), .d (.tup (stD (useful t))), .M (lvK ((useful t).take i)) (lvV ((useful t).take i) fun _ => 0), .L [], a, .un, .un, .un, .un, .un])
      (i_tup (x_var 2)) (g_name 5 nd) ⟨_, rfl⟩ (fun i d p hp ⟨a, hd⟩ => ?_) (fun d ⟨a, hd⟩ => ⟨a, by rw [hd, List.take_length]⟩)) fun d ⟨a, hd⟩ => ?_
  · subst hd
    refine ⟨_, rfl, ?_⟩
    have hnew : dHas (lvK ((useful t).take i)) (Sum.inl (p : Int)) = false := by
      rw [lv_has]
      refine decide_eq_false fun h => ?_
      have nd' : (useful t).Nodup := useful_asc.imp fun h => Nat.ne_of_lt h
      have e : useful t = (useful t).take i ++ (useful t).drop i := (List.take_append_drop i _).symm
      have hc2 : p ∈ (useful t).drop i := List.mem_of_getElem? (i := 0) (by rw [List.getElem?_drop, Nat.add_zero]; exact hp)
      rw [e] at nd'
      exact (List.nodup_append.mp nd').2.2 p h p hc2 rfl
    refine hss_one (hs_dput 3 (k := Sum.inl (p : Int)) (by omega) x_int (x_var 5) rfl rfl (by rw [List.length_map, List.length_take]; omega) ⟨.d (.int p), ?_⟩)
    rw [d_new hnew]
    have e1 : lvK ((useful t).take (i + 1)) = lvK ((useful t).take i) ++ [Sum.inl (p : Int)] := take_map hp
    have e2 : lvV ((useful t).take (i + 1)) (fun _ => 0) = lvV ((useful t).take i) (fun _ => 0) ++ [.int 0] := take_map hp
    rw [e1, e2]
    rfl
  subst hd
  refine hss_cons (fun d => ∃ a : LV, d = [.d t.d, .d (.tup ((rises t).map riseD)), .d (.tup (stD (useful t))), .M (lvK (useful t)) (lvV (useful t) fun _ => 0), .L (((useful t).flatMap (movF t)).map movD), a, .un, .un, .un, .un, .un])
    (hs_forT (t := .one 5) (useful t) (fun (k : Nat) => .int k) (fun i d => ∃ a : LV, d = [.d t.d, .d (.tup ((rises t).map riseD)), .d (.tup (stD (useful t))), .M (lvK (useful t)) (lvV (useful t) fun _ => 0), .L ((((useful t).take i).flatMap (movF t)).map movD), a, .un, .un, .un, .un, .un])
      (i_tup (x_var 2)) (g_name 5 nd) ⟨_, rfl⟩ (fun i d p hp ⟨a, hd⟩ => ?_) (fun d ⟨a, hd⟩ => ⟨a, by rw [hd, List.take_length]⟩)) fun d ⟨a, hd⟩ => ?_
  · subst hd
    refine ⟨_, rfl, ?_⟩
    have hpl := useful_lt (List.mem_of_getElem? hp)
    refine hss_one (hs_extend 4 (ys := (movF t p).map movD) (XL.xe (XL.eq (l_lc [("spot", 10)] (.one 10) (nexts t p) (fun (k : Nat) => .int k) (fun q => decide (q ∈ useful t)) (fun q => movD (p, q, 0)) nd
      (i_list (x_call (ok_nexts W) (hr.mono (by omega)) (a_cons (x_var 0) (a_cons (x_var 5) a_nil)) ⟨t, p, ok, hpl, rfl, rfl⟩)) (blkOk_by (by kernel_rfl))
      (fun _ _ _ _ _ => g_name 10 nd) (fun q hq => ⟨_, rfl, fun _ _ _ _ _ => ts_one (XT.eq (t_din hu1 (x_var 10) (o_M 3) rfl) lv_has), fun _ _ _ _ _ _ => x_tup (a_cons (x_var 5) (a_cons (x_var 10) (a_cons x_int a_nil)))⟩) (by have := nexts_len (t := t) p; omega)) (by show _ = List.map movD (List.map _ _); rw [List.map_map]; rfl))) rfl (by
        have h1 := mov_len ok (l := (useful t).take i) (by rw [List.length_take]; omega)
        have h2 := movF_len (t := t) (s := p)
        rw [List.length_map, List.length_map]
        omega) ⟨.d (.int p), ?_⟩)
    rw [take_flat hp, List.map_append]
    rfl
  subst hd
  refine hss_seq [.d t.d, .d (.tup ((rises t).map riseD)), .d (.tup (stD (useful t))), .M (lvK (useful t)) (lvV (useful t) fun _ => 0), .L ((moves t).map movD), a, .un, .un, .un, .un, .un] (fun Φ' h => hs_extend 4 (ys := ((rises t).map fun z => (z.1, z.2, (1 : Int))).map movD) (XL.xe (XL.eq (l_map [("one", 7), ("other", 8)] (.tup [7, 8]) (rises t) riseD (fun z => movD (z.1, z.2, 1)) nd (i_tup (x_var 1)) (blkOk_by (by kernel_rfl)) (fun _ _ _ _ _ => g_tup (gs_cons 7 (gs_cons 8 gs_nil nd) nd)) (fun z hz => ⟨_, rfl, fun _ _ _ _ _ => x_tup (a_cons (x_var 7) (a_cons (x_var 8) (a_cons x_int a_nil)))⟩) (by omega)) (by rw [List.map_map]; rfl))) rfl (by
        have h1 := mov_len ok (l := useful t) (by omega)
        rw [List.length_map, List.length_map, List.length_map]
        omega) (by
        have e : moves t = (useful t).flatMap (movF t) ++ (rises t).map fun z => (z.1, z.2, (1 : Int)) := rfl
        rw [e, List.map_append] at h
        exact h)) ?_
  refine hss_frL 4 ?_
  refine hss_seq [.d t.d, .d (.tup ((rises t).map riseD)), .d (.tup (stD (useful t))), .M (lvK (useful t)) (lvV (useful t) fun _ => 0), .d (.lst ((moves t).map movD)), a, .d (.bl true), .un, .un, .un, .un] (fun Φ' h => hs_set 6 nd x_bl h) ?_
  refine hss_cons (fun d => ∃ a b c e g : LV, d = [.d t.d, .d (.tup ((rises t).map riseD)), .d (.tup (stD (useful t))), .M (lvK (useful t)) (lvV (useful t) (lv t)), .d (.lst ((moves t).map movD)), a, b, c, e, g, .un])
    (hs_while (fun m d => ∃ (f : Nat → Int) (ch : Bool) (c e g : LV), Wit t f ∧ 2 * ((((useful t).length * t.n : Nat) : Int) - ((useful t).map f).sum) + (if ch then 1 else 0) ≤ m ∧ (ch = false → ∀ z ∈ moves t, f z.1 + z.2.2 ≤ f z.2.1) ∧ d = [.d t.d, .d (.tup ((rises t).map riseD)), .d (.tup (stD (useful t))), .M (lvK (useful t)) (lvV (useful t) f), .d (.lst ((moves t).map movD)), a, .d (.bl ch), c, e, g, .un]) (2 * ((useful t).length * t.n) + 1)
      ⟨fun _ => 0, true, _, _, _, wit0 ok, (by
        have : ((useful t).map fun _ => (0 : Int)).sum = 0 := by
          induction useful t with
          | nil => rfl
          | cons a l ih => rw [List.map_cons, List.sum_cons, ih]; rfl
        rw [this, if_pos rfl]; omega), fun z => (by cases z), rfl⟩ fun m d ⟨f, ch, c, e, g, Wf, hm, hcl, hd⟩ => ?_) fun d ⟨a, b, c, e, g, hd⟩ => ?_
  · subst hd
    refine ⟨_, t_val (x_var 6), fun hq => ?_, fun hq => ?_⟩
    · subst hq
      have hum : ∀ z ∈ moves t, z.1 ∈ useful t ∧ z.2.1 ∈ useful t := fun z hz => by
        have := mem_moves ok (a := z.1) (b := z.2.1) (r := z.2.2) hz
        exact ⟨this.1, this.2.1⟩
      refine hss_seq [.d t.d, .d (.tup ((rises t).map riseD)), .d (.tup (stD (useful t))), .M (lvK (useful t)) (lvV (useful t) f), .d (.lst ((moves t).map movD)), a, .d (.bl false), c, e, g, .un] (fun Φ' h => hs_set 6 nd x_bl h) ?_
      refine hss_one (hs_forT (t := .tup [7, 8, 9]) (moves t) movD (fun i d => ∃ c e g : LV, d = [.d t.d, .d (.tup ((rises t).map riseD)), .d (.tup (stD (useful t))), .M (lvK (useful t)) (lvV (useful t) (((moves t).take i).foldl relax (f, false)).1), .d (.lst ((moves t).map movD)), a, .d (.bl (((moves t).take i).foldl relax (f, false)).2), c, e, g, .un])
        (i_list (x_var 4)) (g_tup (gs_cons 7 (gs_cons 8 (gs_cons 9 gs_nil nd) nd) nd)) ⟨_, _, _, rfl⟩ (fun i d z hz ⟨c, e, g, hd⟩ => ?_) (fun d ⟨c, e, g, hd⟩ => ?_))
      · subst hd
        refine ⟨_, rfl, ?_⟩
        obtain ⟨p, q, r⟩ := z
        obtain ⟨hp, hq⟩ := hum _ (List.mem_of_getElem? hz)
        rw [take_fold hz]
        generalize ((moves t).take i).foldl relax (f, false) = s
        obtain ⟨f1, c1⟩ := s
        refine hss_one (hs_if (t_lt (x_dget hu1 (o_M 3) (x_var 8) rfl (lv_get hq)) (x_add (x_dget hu1 (o_M 3) (x_var 7) rfl (lv_get hp)) (x_var 9))) (fun e => ?_) fun e => ?_)
        · have er : relax (f1, c1) (p, q, r) = (upd f1 q (f1 p + r), true) := if_pos (of_decide_eq_true e)
          rw [er]
          refine hss_seq [.d t.d, .d (.tup ((rises t).map riseD)), .d (.tup (stD (useful t))), .M (lvK (useful t)) (lvV (useful t) (upd f1 q (f1 p + r))), .d (.lst ((moves t).map movD)), a, .d (.bl c1), .d (.int p), .d (.int q), .d (.int r), .un] (fun Φ' h => hs_dput 3 (k := Sum.inl (q : Int)) hu1 (x_add (x_dget hu1 (o_M 3) (x_var 7) rfl (lv_get hp)) (x_var 9)) (x_var 8) rfl rfl (by rw [List.length_map]; omega) (by rw [lv_put hq]; exact h)) ?_
          exact hss_one (hs_set 6 nd x_bl ⟨.d (.int p), .d (.int q), .d (.int r), rfl⟩)
        · have er : relax (f1, c1) (p, q, r) = (f1, c1) := if_neg (of_decide_eq_false e)
          rw [er]
          exact hss_nil ⟨.d (.int p), .d (.int q), .d (.int r), rfl⟩
      · rw [List.take_length] at hd
        obtain ⟨p1, p2, _, p4⟩ := pass_all ok (moves t) (f, false) (fun z hz => hz) Wf
        obtain ⟨p5, p6⟩ := p4 rfl
        have ws := wit_sum p1 ndb (U := useful t) fun p hp => hp
        rw [if_pos rfl] at hm
        cases hch : ((moves t).foldl relax (f, false)).2 with
        | true =>
          have p5 := p5 hch
          have p5 : ((useful t).map f).sum + 1 ≤ _ := p5
          refine ⟨m - 2, by omega, ((moves t).foldl relax (f, false)).1, true, c, e, g, p1, ?_, fun z => (by cases z), by rw [hd, hch]⟩
          rw [if_pos rfl]
          omega
        | false =>
          obtain ⟨e1, e2⟩ := p6 hch
          have ws := wit_sum Wf ndb (U := useful t) fun p hp => hp
          refine ⟨m - 1, by omega, f, false, c, e, g, Wf, ?_, fun _ => e2, by rw [hd, hch, e1]⟩
          rw [if_neg Bool.noConfusion]
          omega
    · subst hq
      have ev : lvV (useful t) f = lvV (useful t) (lv t) := List.map_congr_left fun p hp => congrArg D.int (closed_lvl ok ndb Wf (hcl rfl) hp)
      exact ⟨a, .d (.bl false), c, e, g, by rw [ev]⟩
  · subst hd
    exact hss_frM 3 (hss_one (hs_ret (x_var 3) rfl))
end
end Tly
end
section
set_option Elab.async false
set_option linter.all false
set_option maxRecDepth 100000
set_option maxHeartbeats 2000000
namespace Tly
open PySem PySem.Spec PyProof.Rows L2 Dl
noncomputable def degD (t : Tal) : D := if doubling t = [] then .int (topL t : Int) else .non
theorem mx_top {t : Tal} : mx (0 :: (useful t).map (lv t)) = (topL t : Int) := by
  refine Int.le_antisymm ?_ ?_
  · have := mx_mem (ns := 0 :: (useful t).map (lv t)) (by simp)
    rcases List.mem_cons.mp this with e | e
    · rw [e]; exact Int.natCast_nonneg _
    · obtain ⟨p, hp, e⟩ := List.mem_map.mp e
      rw [← e]
      exact Int.ofNat_le.mpr (le_top hp)
  · rcases top_at (t := t) with e | ⟨p, hp, e⟩
    · rw [e]; exact le_mx List.mem_cons_self
    · rw [← e]
      exact le_mx (List.mem_cons_of_mem _ (List.mem_map.mpr ⟨p, hp, rfl⟩))
theorem min_if {i : Int} : (if i < 2 then i else (2 : Int)) = min 2 i := by
  split <;> omega
def entD (z : Ent) : D := .tup [.int z.1, .int z.2.1, .int z.2.2.1, .int z.2.2.2]
def entF (t : Tal) (c : Nat) (z : Int × Nat) : List Ent := ((stepsOf t z.2).filter fun y => decide (y.1 = c)).map fun y => (z.2, z.1, y.2.1, y.2.2)
theorem entF_len {t : Tal} (h : t.Ok) {c : Nat} {z : Int × Nat} (hz : z.2 < t.n) : (entF t c z).length ≤ 27 := by
  unfold entF
  rw [List.length_map]
  exact Nat.le_trans (List.length_filter_le _ _) (steps_len h hz)
theorem ents_len2 {t : Tal} (h : t.Ok) {row : List Int} (hl : row.length = t.n) {c : Nat} (i : Nat) : (((row.zipIdx.take i).filter fun z => decide (0 < z.1)).flatMap (entF t c)).length ≤ 243 := by
  have l1 := h.sml
  have := flat_le (f := entF t c) (n := 27) (xs := (row.zipIdx.take i).filter fun z => decide (0 < z.1)) fun z hz => by
    refine entF_len h ?_
    have := List.mem_of_mem_take (List.mem_filter.mp hz).1
    have := (List.getElem?_eq_some_iff.mp (List.mem_zipIdx_iff_getElem?.mp this)).1
    omega
  have h2 := List.length_filter_le (fun z : Int × Nat => decide (0 < z.1)) (row.zipIdx.take i)
  rw [List.length_take, List.length_zipIdx] at h2
  omega
section
variable {P : Program} {w : World} {K : PySem.W.Frag} {mg : Str → Option Value} {base : Heap}
def pre_degree (ds : List D) (x : D) : Prop := ∃ (t : Tal), t.Ok ∧ ds = [t.d] ∧ x = degD t
theorem sc_degree : FnScope ["tally"] ["tally"] (defScope s_degree) := ⟨rfl, rfl, rfl, by decide +kernel, rfl, by decide +kernel, by decide +kernel⟩
theorem ok_degree (W : Wd K mg) : Fn P w K mg base "degree" 6 ["tally"] (FSp (TA K) pre_degree) := by
  refine mk_fn (d := d_degree) W 35 30 rfl rfl rfl rfl rfl sc_degree (fun ds x h => by obtain ⟨t, ok, rfl, rfl⟩ := h; rfl) (fun _ _ _ _ _ _ us hl => match us, hl with | [_], _ => rfl) fun f cdv A outer s0 H E Z ds x hp hr => ?_
  obtain ⟨t, ok, rfl, rfl⟩ := hp
  have nd := sc_degree.nd
  have l1 := ok.sml
  have l2 := useful_len (t := t)
  refine hss_guard (t_neD 1 1 hr.units (XE.r (x_call (ok_doubling_states W) (hr.mono (by omega)) (a_cons (x_var 0) a_nil) ⟨t, ok, rfl, rfl⟩)) (XE.r (x_tup a_nil)) ok_stD rfl (by rw [eqv_nil, stD_empty])) (fun e => hss_one (hs_ret x_non ?_)) fun e => ?_
  · show D.non = degD t
    unfold degD
    rw [if_neg]
    intro z
    rw [z] at e
    cases e
  · have e : doubling t = [] := by
      cases q : doubling t with
      | nil => rfl
      | cons a b => rw [q] at e; cases e
    refine hss_one (hs_ret (XE.eq (x_max1 (ns := 0 :: (useful t).map (lv t)) W.b_max (XE.r (XE.eq (XL.xe (l_catL (XE.r (XL.xe (l_lst (a_cons x_int a_nil)))) (XE.r (XL.xe (l_vals W.b_list (XE.r (x_call (ok_least_levels W) (hr.mono (by omega)) (a_cons (x_var 0) (a_cons (x_call (ok_rises W) (hr.mono (by omega)) (a_cons (x_var 0) a_nil) ⟨t, ok, rfl, rfl⟩) a_nil)) ⟨t, ok, (dbl_nil ok).mp e, rfl, rfl⟩))))) (sl_ok (by show 1 + (List.map _ _).length ≤ _; rw [List.length_map]; omega)))) (by show D.lst (D.int 0 :: List.map _ _) = _; rw [List.map_cons, List.map_map]; rfl))) (by simp)) (congrArg D.int mx_top)) ?_)
    show _ = degD t
    unfold degD
    rw [if_pos e]
def pre_entries (ds : List D) (x : D) : Prop := ∃ (t : Tal) (row : List Int) (c : Nat), t.Ok ∧ row.length = t.n ∧ ds = [t.d, .lst (row.map .int), .str (sg c)] ∧ x = .lst ((entries t row c).map entD)
theorem sc_entries : FnScope ["tally", "row", "digit", "found", "state", "number", "sign", "spot", "more"] ["tally", "row", "digit"] (defScope s_entries) := ⟨rfl, rfl, rfl, by decide +kernel, rfl, by decide +kernel, by decide +kernel⟩
theorem ok_entries (W : Wd K mg) : Fn P w K mg base "entries" 2 ["tally", "row", "digit"] (FSp (TA K) pre_entries) := by
  refine mk_fn (d := d_entries) W 38 33 rfl rfl rfl rfl rfl sc_entries (fun ds x h => by obtain ⟨t, row, c, ok, hl, rfl, rfl⟩ := h; rfl) (fun _ _ _ _ _ _ us hl => match us, hl with | [_, _, _], _ => rfl) fun f cdv A outer s0 H E Z ds x hp hr => ?_
  obtain ⟨t, row, c, ok, hl, rfl, rfl⟩ := hp
  have nd := sc_entries.nd
  have l1 := ok.sml
  let pr : Int × Nat → Bool := fun z => decide (0 < z.1)
  refine hss_seq [.d t.d, .d (.lst (row.map .int)), .d (.str (sg c)), .L [], .un, .un, .un, .un, .un] (fun Φ' h => hs_setL 3 nd (l_lst a_nil) h) ?_
  refine hss_cons (fun d => ∃ a1 a2 a3 a4 a5 : LV, d = [.d t.d, .d (.lst (row.map .int)), .d (.str (sg c)), .L ((entries t row c).map entD), a1, a2, a3, a4, a5])
    (hs_forT (t := .tup [4, 5]) row.zipIdx (fun z => D.tup [.int (z.2 : Nat), .int z.1]) (fun i d => ∃ a1 a2 a3 a4 a5 : LV, d = [.d t.d, .d (.lst (row.map .int)), .d (.str (sg c)), .L ((((row.zipIdx.take i).filter pr).flatMap (entF t c)).map entD), a1, a2, a3, a4, a5])
      (XI.eq (i_enumL W.b_enumerate (x_var 1)) enum_row) (g_tup (gs_cons 4 (gs_cons 5 gs_nil nd) nd)) ⟨_, _, _, _, _, rfl⟩ (fun i d z hz ⟨a1, a2, a3, a4, a5, hd⟩ => ?_) (fun d ⟨a1, a2, a3, a4, a5, hd⟩ => ⟨a1, a2, a3, a4, a5, by rw [hd, List.take_length]; rfl⟩)) fun d ⟨a1, a2, a3, a4, a5, hd⟩ => ?_
  · subst hd
    refine ⟨_, rfl, ?_⟩
    obtain ⟨x, s⟩ := z
    have hx : row[s]? = some x := List.mem_zipIdx_iff_getElem?.mp (List.mem_of_getElem? hz)
    have hs : s < t.n := by have := (List.getElem?_eq_some_iff.mp hx).1; omega
    have la := ents_len2 ok hl (c := c) i
    refine hss_one (hs_if (t_gt (x_var 5) x_int) (fun e => ?_) fun e => ?_)
    · have ls := steps_len ok hs
      let acc := ((row.zipIdx.take i).filter pr).flatMap (entF t c)
      refine hss_one (hs_forT (t := .tup [6, 7, 8]) (stepsOf t s) stepD (fun j d => ∃ a3 a4 a5 : LV, d = [.d t.d, .d (.lst (row.map .int)), .d (.str (sg c)), .L ((acc ++ ((((stepsOf t s).take j).filter fun y => decide (y.1 = c)).map fun y => ((s, x, y.2.1, y.2.2) : Ent))).map entD), .d (.int s), .d (.int x), a3, a4, a5])
        (i_list (x_call (ok_steps_of W) (hr.mono (by omega)) (a_cons (x_var 0) (a_cons (x_var 4) a_nil)) ⟨t, s, ok, hs, rfl, rfl⟩)) (g_tup (gs_cons 6 (gs_cons 7 (gs_cons 8 gs_nil nd) nd) nd)) ⟨_, _, _, by simp [List.append_nil]; rfl⟩ (fun j d y hy ⟨a3, a4, a5, hd⟩ => ?_)
        (fun d ⟨a3, a4, a5, hd⟩ => ⟨.d (.int s), .d (.int x), a3, a4, a5, hd.trans (by
          have : ((row.zipIdx.take (i + 1)).filter pr).flatMap (entF t c) = acc ++ entF t c (x, s) := by
            rw [take_filt hz, if_pos e, List.flatMap_append]
            simp [acc]
          rw [List.take_length, this]; rfl)⟩))
      subst hd
      refine ⟨_, rfl, ?_⟩
      obtain ⟨c2, v, m⟩ := y
      refine hss_one (hs_if (t_eq (x_var 6) (x_var 2)) (fun e => ?_) fun e => ?_)
      · have e : c2 = c := by rw [vstr_eq] at e; exact of_decide_eq_true e
        refine hss_one (hs_append 3 (x_tup (a_cons (x_var 4) (a_cons (x_var 5) (a_cons (x_var 7) (a_cons (x_var 8) a_nil))))) rfl (by
          have h1 := List.length_filter_le (fun y : Nat × Nat × Int => decide (y.1 = c)) ((stepsOf t s).take j)
          rw [List.length_take] at h1
          rw [List.length_map, List.length_append, List.length_map]
          have la : acc.length ≤ 243 := la
          omega) ⟨.d (.str (sg c2)), .d (.int v), .d (.int m), ?_⟩)
        have ea : (acc ++ ((((stepsOf t s).take (j + 1)).filter fun y => decide (y.1 = c)).map fun y => ((s, x, y.2.1, y.2.2) : Ent))).map entD = (acc ++ ((((stepsOf t s).take j).filter fun y => decide (y.1 = c)).map fun y => ((s, x, y.2.1, y.2.2) : Ent))).map entD ++ [entD (s, x, v, m)] := by
          rw [take_filt hy, if_pos (by simpa using e)]
          simp only [List.map_append, List.append_assoc]
          rfl
        rw [ea]
        rfl
      · have e : c2 ≠ c := by rw [vstr_eq] at e; exact of_decide_eq_false e
        exact hss_nil ⟨.d (.str (sg c2)), .d (.int v), .d (.int m), by rw [take_filt hy, if_neg (by simpa using e), List.append_nil]; rfl⟩
    · exact hss_nil ⟨.d (.int s), .d (.int x), _, _, _, by rw [take_filt hz, if_neg (show ¬ pr (x, s) = true by rw [show pr (x, s) = false from e]; exact Bool.noConfusion), List.append_nil]; rfl⟩
  · subst hd
    exact hss_frL 3 (hss_one (hs_ret (x_var 3) rfl))
def pre_few_ways (ds : List D) (x : D) : Prop := ∃ (t : Tal) (u S : List Nat), t.Ok ∧ ds = [t.d, .str (mkS u), .lst (stD S)] ∧ x = .lst ((fewWays t u S).map .int)
theorem rep_flat {n : Nat} : (List.replicate ((n : Int)).toNat [D.int 0]).flatten = (List.replicate n (0 : Int)).map .int := by
  rw [Int.toNat_natCast]
  induction n with
  | zero => rfl
  | succ n ih => rw [List.replicate_succ, List.flatten_cons, ih, List.replicate_succ, List.map_cons]; rfl
theorem fold_ent_len {t : Tal} {S : List Nat} (u : List Nat) : (u.foldl (fewStep t) (few0 t S)).length = t.n := few_len (S := S) few0_len
theorem sc_few_ways : FnScope ["tally", "ticket", "firsts", "row", "digit", "fresh", "state", "number", "spot", "more"] ["tally", "ticket", "firsts"] (defScope s_few_ways) := ⟨rfl, rfl, rfl, by decide +kernel, rfl, by decide +kernel, by decide +kernel⟩
theorem ok_few_ways (W : Wd K mg) : Fn P w K mg base "few_ways" 3 ["tally", "ticket", "firsts"] (FSp (TA K) pre_few_ways) := by
  refine mk_fn (d := d_few_ways) W 37 32 rfl rfl rfl rfl rfl sc_few_ways (fun ds x h => by obtain ⟨t, u, S, ok, rfl, rfl⟩ := h; rfl) (fun _ _ _ _ _ _ us hl => match us, hl with | [_, _, _], _ => rfl) fun f cdv A outer s0 H E Z ds x hp hr => ?_
  obtain ⟨t, u, S, ok, rfl, rfl⟩ := hp
  have nd := sc_few_ways.nd
  have hu := hr.units
  have l1 := ok.sml
  refine hss_seq [.d t.d, .d (.str (mkS u)), .d (.lst (stD S)), .L ((few0 t S).map .int), .un, .un, .un, .un, .un, .un] (fun Φ' h => hs_setMap 3 [("state", 6)] (.one 6) (List.range t.n) (fun (k : Nat) => .int k) (fun (k : Nat) => .int (if k ∈ S then 1 else 0)) nd (i_rangeN W.b_range (XE.eq (x_lenT W.b_len (XE.r (x_fld 1 W.cls W.na_start (x_var 0)))) (congrArg D.int lenI)) (by omega)) (blkOk_by (by kernel_rfl))
      (fun _ _ _ _ _ => g_name 6 nd) (fun q hq => ⟨_, rfl, fun _ _ _ _ _ => XE.eq (x_intB W.b_int (x_inL (ns := S.map fun (k : Nat) => (k : Int)) (x_var 6) (XE.r (XE.eq (x_var 2) (by rw [stD_ints]))))) (by
        have h1 : decide (((q : Nat) : Int) ∈ S.map fun (k : Nat) => (k : Int)) = decide (q ∈ S) := decide_eq_decide.mpr mem_ints
        rw [h1]
        congr 1
        by_cases h : q ∈ S <;> simp [h])⟩) (by rw [List.length_range]; omega) (by
        have : (few0 t S).map D.int = (List.range t.n).map fun (k : Nat) => D.int (if k ∈ S then 1 else 0) := by unfold few0; rw [List.map_map]; rfl
        rw [← this]
        exact h)) ?_
  refine hss_frL 3 ?_
  refine hss_cons (fun d => ∃ a1 a2 a3 a4 a5 a6 : LV, d = [.d t.d, .d (.str (mkS u)), .d (.lst (stD S)), .d (.lst ((fewWays t u S).map .int)), a1, a2, a3, a4, a5, a6])
    (hs_forT (t := .one 4) u (fun c => D.str (sg c)) (fun i d => ∃ a1 a2 a3 a4 a5 a6 : LV, d = [.d t.d, .d (.str (mkS u)), .d (.lst (stD S)), .d (.lst (((u.take i).foldl (fewStep t) (few0 t S)).map .int)), a1, a2, a3, a4, a5, a6])
      (XI.eq (i_str (x_var 1)) signs_mkS) (g_name 4 nd) ⟨_, _, _, _, _, _, rfl⟩ (fun i d c hc ⟨a1, a2, a3, a4, a5, a6, hd⟩ => ?_) (fun d ⟨a1, a2, a3, a4, a5, a6, hd⟩ => ⟨a1, a2, a3, a4, a5, a6, by rw [hd, List.take_length]; rfl⟩)) fun d ⟨a1, a2, a3, a4, a5, a6, hd⟩ => ?_
  · subst hd
    refine ⟨_, rfl, ?_⟩
    have hlr := fold_ent_len (t := t) (S := S) (u.take i)
    rw [take_fold hc]
    generalize (u.take i).foldl (fewStep t) (few0 t S) = row at hlr
    refine hss_seq [.d t.d, .d (.str (mkS u)), .d (.lst (stD S)), .d (.lst (row.map .int)), .d (.str (sg c)), .L ((List.replicate row.length (0 : Int)).map .int), a3, a4, a5, a6] (fun Φ' h => hs_setL 5 nd (XL.eq (l_repL (XE.r (XL.xe (l_lst (a_cons x_int a_nil)))) (x_lenL W.b_len (XE.r (x_var 3))) (Int.natCast_nonneg _) (by rw [List.length_map]; omega) (by simp)) (by rw [List.length_map]; exact rep_flat)) h) ?_
    refine hss_cons (fun d => ∃ a3 a4 a5 a6 : LV, d = [.d t.d, .d (.str (mkS u)), .d (.lst (stD S)), .d (.lst (row.map .int)), .d (.str (sg c)), .L ((fewStep t row c).map .int), a3, a4, a5, a6])
      (hs_forT (t := .tup [6, 7, 8, 9]) (entries t row c) entD (fun j d => ∃ a3 a4 a5 a6 : LV, d = [.d t.d, .d (.str (mkS u)), .d (.lst (stD S)), .d (.lst (row.map .int)), .d (.str (sg c)), .L ((((entries t row c).take j).foldl addE (List.replicate row.length (0 : Int))).map .int), a3, a4, a5, a6])
        (i_list (x_call (ok_entries W) (hr.mono (by omega)) (a_cons (x_var 0) (a_cons (x_var 3) (a_cons (x_var 4) a_nil))) ⟨t, row, c, ok, hlr, rfl, rfl⟩)) (g_tup (gs_cons 6 (gs_cons 7 (gs_cons 8 (gs_cons 9 gs_nil nd) nd) nd) nd)) ⟨_, _, _, _, rfl⟩ (fun j d z hz ⟨a3, a4, a5, a6, hd⟩ => ?_)
        (fun d ⟨a3, a4, a5, a6, hd⟩ => ⟨a3, a4, a5, a6, by rw [hd, List.take_length]; rfl⟩)) fun d ⟨a3, a4, a5, a6, hd⟩ => ?_
    · subst hd
      refine ⟨_, rfl, ?_⟩
      obtain ⟨s, x, q, y⟩ := z
      obtain ⟨hs, hx, h0, hcd, hq, ey, hy0⟩ := (mem_entries ok hlr).mp (List.mem_of_getElem? hz)
      have hlf := foldE_len ((entries t row c).take j) (List.replicate row.length (0 : Int))
      rw [List.length_replicate] at hlf
      rw [take_fold hz]
      generalize ((entries t row c).take j).foldl addE (List.replicate row.length (0 : Int)) = fr at hlf
      refine hss_one (hs_setItem 5 (j := q) (XE.eq (x_min2 W.b_min x_int (x_add (x_ixL (o_L 5) (x_var 8) (row_at (r := fr) (show q < fr.length by omega))) (x_mul (x_var 7) (x_var 9) (cmul_of (show 0 ≤ y by omega) (show y ≤ 1000000 by have := ent_bd ok hcd hs hq; omega))))) (congrArg D.int min_if)) (x_var 8) rfl (by rw [List.length_map]; omega) ⟨.d (.int s), .d (.int x), .d (.int q), .d (.int y), ?_⟩)
      have ea : (addE fr (s, x, q, y)).map D.int = (fr.map D.int).set q (.int (min 2 (fr.getD q 0 + x * y))) := by
        unfold addE
        rw [List.map_set]
      rw [ea]
      rfl
    · subst hd
      refine hss_frL 5 (hss_one (hs_set 3 nd (x_var 5) ⟨.d (.str (sg c)), .d (.lst ((fewStep t row c).map .int)), a3, a4, a5, a6, rfl⟩))
  · subst hd
    exact hss_one (hs_ret (x_var 3) rfl)
def pre_leads (ds : List D) (x : D) : Prop := ∃ (t : Tal) (u S T : List Nat), t.Ok ∧ (∀ q ∈ T, q < t.n) ∧ T.length ≤ 100 ∧ ds = [t.d, .str (mkS u), .lst (stD S), .lst (stD T)] ∧ x = .bl (leads t u S T)
theorem sc_leads : FnScope ["tally", "ticket", "firsts", "goals", "row", "goal"] ["tally", "ticket", "firsts", "goals"] (defScope s_leads) := ⟨rfl, rfl, rfl, by decide +kernel, rfl, by decide +kernel, by decide +kernel⟩
theorem ok_leads (W : Wd K mg) : Fn P w K mg base "leads" 4 ["tally", "ticket", "firsts", "goals"] (FSp (TA K) pre_leads) := by
  refine mk_fn (d := d_leads) W 45 40 rfl rfl rfl rfl rfl sc_leads (fun ds x h => by obtain ⟨t, u, S, T, ok, hT, hl, rfl, rfl⟩ := h; rfl) (fun _ _ _ _ _ _ us hl => match us, hl with | [_, _, _, _], _ => rfl) fun f cdv A outer s0 H E Z ds x hp hr => ?_
  obtain ⟨t, u, S, T, ok, hT, hl, rfl, rfl⟩ := hp
  have nd := sc_leads.nd
  have lr := fold_ent_len (t := t) (S := S) u
  refine hss_seq [.d t.d, .d (.str (mkS u)), .d (.lst (stD S)), .d (.lst (stD T)), .d (.lst ((fewWays t u S).map .int)), .un] (fun Φ' h => hs_set 4 nd (x_call (ok_few_ways W) (hr.mono (by omega)) (a_cons (x_var 0) (a_cons (x_var 1) (a_cons (x_var 2) a_nil))) ⟨t, u, S, ok, rfl, rfl⟩) h) ?_
  exact hss_one (hs_ret (x_anyM T (fun g => decide (0 < (fewWays t u S).getD g 0)) W.b_any
      (XE.r (XL.xe (l_map [("goal", 5)] (.one 5) T (fun (k : Nat) => .int k) _ nd (i_list (x_var 3)) (blkOk_by (by kernel_rfl)) (fun _ _ _ _ _ => g_name 5 nd) (fun g hg => ⟨_, rfl, fun _ _ _ _ _ => x_gt (x_ixL (XE.r (x_var 4)) (x_var 5) (row_at (by have := hT g hg; show g < (fewWays t u S).length; unfold fewWays; omega))) x_int⟩) (by omega))))) rfl)
def pre_is_int (ds : List D) (x : D) : Prop := ∃ i : Int, ds = [.int i] ∧ x = .bl true
def pre_is_integer_growthpapers := pre_is_int
theorem sc_is_integer_growthpapers : FnScope ["thing"] ["thing"] (defScope s_is_integer_growthpapers) := ⟨rfl, rfl, rfl, by decide +kernel, rfl, by decide +kernel, by decide +kernel⟩
theorem ok_is_integer_growthpapers (W : Wd K mg) : Fn P w K mg base "is_integer_growthpapers" 1 ["thing"] (FSp (TA K) pre_is_integer_growthpapers) := by
  refine mk_fn (d := d_is_integer_growthpapers) W 36 31 rfl rfl rfl rfl rfl sc_is_integer_growthpapers (fun ds x h => by obtain ⟨i, rfl, rfl⟩ := h; rfl) (fun _ _ _ _ _ _ us hl => match us, hl with | [_], _ => rfl) fun f cdv A outer s0 H E Z ds x hp hr => ?_
  obtain ⟨i, rfl, rfl⟩ := hp
  have nd := sc_is_integer_growthpapers.nd
  exact hss_one (hs_ret (x_and (p := true) (q := true) (x_isi (ty := "int") W.b_isinstance (x_var 0) (fun _ z => (by cases z)) W.b_int rfl rfl) fun _ => x_one (x_not (p := false) (x_isi (ty := "int") W.b_isinstance (x_var 0) (fun _ z => (by cases z)) W.b_bool rfl rfl))) rfl)
def pre_is_integer_tickets := pre_is_int
theorem sc_is_integer_tickets : FnScope ["thing"] ["thing"] (defScope s_is_integer_tickets) := ⟨rfl, rfl, rfl, by decide +kernel, rfl, by decide +kernel, by decide +kernel⟩
theorem ok_is_integer_tickets (W : Wd K mg) : Fn P w K mg base "is_integer_tickets" 1 ["thing"] (FSp (TA K) pre_is_integer_tickets) := by
  refine mk_fn (d := d_is_integer_tickets) W 7 7 rfl rfl rfl rfl rfl sc_is_integer_tickets (fun ds x h => by obtain ⟨i, rfl, rfl⟩ := h; rfl) (fun _ _ _ _ _ _ us hl => match us, hl with | [_], _ => rfl) fun f cdv A outer s0 H E Z ds x hp hr => ?_
  obtain ⟨i, rfl, rfl⟩ := hp
  have nd := sc_is_integer_tickets.nd
  exact hss_one (hs_ret (x_and (p := true) (q := true) (x_isi (ty := "int") W.b_isinstance (x_var 0) (fun _ z => (by cases z)) W.b_int rfl rfl) fun _ => x_one (x_not (p := false) (x_isi (ty := "int") W.b_isinstance (x_var 0) (fun _ z => (by cases z)) W.b_bool rfl rfl))) rfl)
def pre_is_state (ds : List D) (x : D) : Prop := ∃ (t : Tal) (s : Nat), t.Ok ∧ s < t.n ∧ ds = [t.d, .int s] ∧ x = .bl true
theorem sc_is_state : FnScope ["tally", "thing"] ["tally", "thing"] (defScope s_is_state) := ⟨rfl, rfl, rfl, by decide +kernel, rfl, by decide +kernel, by decide +kernel⟩
theorem ok_is_state (W : Wd K mg) : Fn P w K mg base "is_state" 2 ["tally", "thing"] (FSp (TA K) pre_is_state) := by
  refine mk_fn (d := d_is_state) W 39 34 rfl rfl rfl rfl rfl sc_is_state (fun ds x h => by obtain ⟨t, s, ok, hs, rfl, rfl⟩ := h; rfl) (fun _ _ _ _ _ _ us hl => match us, hl with | [_, _], _ => rfl) fun f cdv A outer s0 H E Z ds x hp hr => ?_
  obtain ⟨t, s, ok, hs, rfl, rfl⟩ := hp
  have nd := sc_is_state.nd
  refine hss_one (hs_ret (x_and (p := true) (q := true) (x_call (ok_is_integer_growthpapers W) (hr.mono (by omega)) (a_cons (x_var 1) a_nil) ⟨_, rfl, rfl⟩) fun _ => x_one (XE.eq (x_lelt x_int (x_var 1) (x_lenT W.b_len (XE.r (x_fld 1 W.cls W.na_start (x_var 0))))) (congrArg D.bl ?_))) rfl)
  rw [Bool.and_eq_true, decide_eq_true_eq, decide_eq_true_eq, List.length_map]
  have : t.start.length = t.n := rfl
  omega
end
end Tly
end
section
set_option Elab.async false
set_option linter.all false
set_option maxRecDepth 100000
set_option maxHeartbeats 2000000
namespace Tly
open PySem PySem.Spec PyProof.Rows L2 Dl
theorem chainL_succ {t : Tal} {k here : Nat} {z : Nat × Nat} (h : link t here = some z) : chainL t (k + 1) here = z :: chainL t k z.1 := by
  conv => lhs; unfold chainL
  rw [h]
noncomputable def pChain (t : Tal) : List (Nat × Nat) := if topL t = 0 then [] else match peaks t with
  | g :: _ => chain t g
  | [] => []
noncomputable def pBehind (t : Tal) : List Nat := if topL t = 0 then [] else (between t (hereAt (starts t) (pChain t) (pChain t).length) (goals t)).getD []
def pieceD (z : Piece) : D := .tup [.str (mkS z.1), .int z.2.1, .str (mkS z.2.2.1), .int z.2.2.2]
noncomputable def levD (t : Tal) (p : Nat) : D := .tup [.int p, .int (lv t p)]
noncomputable def rowsD (t : Tal) : D := .tup ((useful t).map (levD t))
noncomputable def pPaperD (t : Tal) : D := .tup [.str "power", rowsD t, .tup ((piecesL t (pChain t)).map pieceD), .str (mkS (pBehind t))]
noncomputable def paperD (t : Tal) : D := if doubling t = [] then pPaperD t else dPaperD t
theorem chainL_le {t : Tal} (h : t.Ok) (nd : Gm.NoDbl (gph t)) {k here : Nat} (u : here ∈ useful t) (e : Gm.lvl (gph t) here = k) : (chainL t k here).length = k := chainL_len h nd u e
theorem lvl_le {t : Tal} (h : t.Ok) (nd : Gm.NoDbl (gph t)) {p : Nat} (u : p ∈ useful t) : Gm.lvl (gph t) p ≤ t.n := by
  obtain ⟨⟨a, l⟩, _⟩ := Gm.lvl_spec nd ((mem_useful h).mp u)
  exact l.bound nd
theorem hereAt_lt {t : Tal} {l : List (Nat × Nat)} {S : List Nat} (hl : ∀ z ∈ l, z.2 < t.n) (hS : ∀ s ∈ S, s < t.n) {i : Nat} (hi : i ≤ l.length) : ∀ s ∈ hereAt S l i, s < t.n := by
  cases i with
  | zero => exact hS
  | succ i =>
    intro s hs
    have e : s = (l.getD i (0, 0)).2 := List.mem_singleton.mp hs
    rw [e, List.getD_eq_getElem?_getD, List.getElem?_eq_getElem (by omega)]
    exact hl _ (List.getElem_mem _)
theorem hereAt_len {t : Tal} {l : List (Nat × Nat)} {i : Nat} : (hereAt (starts t) l i).length ≤ t.n + 1 := by
  cases i with
  | zero => exact Nat.le_succ_of_le flt_len
  | succ i => show 1 ≤ _; omega
section
variable {P : Program} {w : World} {K : PySem.W.Frag} {mg : Str → Option Value} {base : Heap}
def pre_chain_to (ds : List D) (x : D) : Prop := ∃ (t : Tal) (g : Nat), t.Ok ∧ Gm.NoDbl (gph t) ∧ g ∈ useful t ∧ ds = [t.d, .tup ((rises t).map riseD), lvlD t, .int g] ∧ x = .lst ((chain t g).map riseD)
theorem sc_chain_to : FnScope ["tally", "pairs", "levels", "goal", "found", "here", "some", "one", "other"] ["tally", "pairs", "levels", "goal"] (defScope s_chain_to) := ⟨rfl, rfl, rfl, by decide +kernel, rfl, by decide +kernel, by decide +kernel⟩
theorem ok_chain_to (W : Wd K mg) : Fn P w K mg base "chain_to" 3 ["tally", "pairs", "levels", "goal"] (FSp (TA K) pre_chain_to) := by
  refine mk_fn (d := d_chain_to) W 42 37 rfl rfl rfl rfl rfl sc_chain_to (fun ds x h => by obtain ⟨t, gl, ok, ndb, hg, rfl, rfl⟩ := h; rfl) (fun _ _ _ _ _ _ us hl => match us, hl with | [_, _, _, _], _ => rfl) fun f cdv A outer s0 H E Z ds x hp hr => ?_
  obtain ⟨t, gl, ok, ndb, hg, rfl, rfl⟩ := hp
  have nd := sc_chain_to.nd
  have hu := hr.units
  have hu1 := Nat.lt_of_le_of_lt (Nat.add_le_add_left (show 1 ≤ 64 by decide) _) hu
  have l1 := ok.sml
  have l2 := useful_len (t := t)
  have l4 := rises_len ok
  have hlg := lvl_le ok ndb hg
  have hcl := chainL_len ok ndb hg rfl
  let p4 : List LV := [.d t.d, .d (.tup ((rises t).map riseD)), .d (lvlD t), .d (.int gl)]
  refine hss_seq (p4 ++ [.L [], .d (.int gl), .un, .un, .un]) (fun Φ' h => hs_parT 4 5 nd (vs_cons (XL.v (l_lst a_nil)) (vs_cons (XE.v (x_var 3)) vs_nil)) h) ?_
  refine hss_cons (fun d => ∃ a b c e : LV, d = p4 ++ [.L ((chainL t (Gm.lvl (gph t) gl) gl).map riseD), a, b, c, e])
    (hs_while (fun m d => ∃ (found : List (Nat × Nat)) (here : Nat) (b c e : LV), here ∈ useful t ∧ found ++ chainL t m here = chainL t (Gm.lvl (gph t) gl) gl ∧ m = Gm.lvl (gph t) here ∧ d = p4 ++ [.L (found.map riseD), .d (.int here), b, c, e]) (Gm.lvl (gph t) gl) ⟨[], gl, _, _, _, hg, rfl, rfl, rfl⟩ fun m d ⟨found, here, b, c, e, hh, hf, hm, hd⟩ => ?_) fun d ⟨a, b, c, e, hd⟩ => ?_
  · subst hd
    have hhn := useful_lt hh
    refine ⟨_, t_gt (x_dget hu1 (XE.r (x_var 2)) (x_var 5) rfl (lv_get hh)) x_int, fun hq => ?_, fun hq => ?_⟩
    · have hpos : 0 < Gm.lvl (gph t) here := by
        have h : (0 : Int) < ((Gm.lvl (gph t) here : Nat) : Int) := of_decide_eq_true hq
        omega
      obtain ⟨z, hz⟩ := link_ex ok ndb hh hpos
      obtain ⟨zr, ze, zk⟩ := link_some ok hz
      obtain ⟨m, rfl⟩ : ∃ k, m = k + 1 := ⟨m - 1, by omega⟩
      have hfl : found.length ≤ 9 := by
        have := congrArg List.length hf
        rw [List.length_append, hcl] at this
        omega
      refine hss_drop 6 (hss_drop 7 (hss_drop 8 ?_))
      refine hss_seq (p4 ++ [.L (found.map riseD), .d (.int here), .L ((cands t here).map riseD), .un, .un]) (fun Φ' h => hs_setLc 6 [("one", 7), ("other", 8)] (.tup [7, 8]) (rises t) riseD (fun z => decide (lv t z.1 = lv t here - 1) && decide (lv t here - 1 = lv t z.2 - 1)) riseD nd (i_tup (x_var 1)) (blkOk_by (by kernel_rfl)) (fun _ _ _ _ _ => g_tup (gs_cons 7 (gs_cons 8 gs_nil nd) nd)) (fun y hy => ⟨_, rfl, fun _ _ _ _ _ => ts_one (t_eqeq (x_dget hu1 (XE.r (x_var 2)) (x_var 7) rfl (lv_get ((mem_useful ok).mpr ((mem_rises ok (p := y.1) (q := y.2)).mp hy).2.1))) (x_sub (x_dget hu1 (XE.r (x_var 2)) (x_var 5) rfl (lv_get hh)) x_int) (x_sub (x_dget hu1 (XE.r (x_var 2)) (x_var 8) rfl (lv_get ((mem_useful ok).mpr ((mem_rises ok (p := y.1) (q := y.2)).mp hy).2.2.1))) x_int)), fun _ _ _ _ _ _ => x_tup (a_cons (x_var 7) (a_cons (x_var 8) a_nil))⟩) (by omega) h) ?_
      refine hss_frL 6 ?_
      refine hss_one (hs_forT (t := .tup [7, 8]) (cands t here) riseD (fun i d => ∃ c e : LV, ((cands t here).drop i).find? (fun z => (between t [z.2] [here]).isSome) = some z ∧ d = p4 ++ [.L (found.map riseD), .d (.int here), .d (.lst ((cands t here).map riseD)), c, e])
        (i_list (x_var 6)) (g_tup (gs_cons 7 (gs_cons 8 gs_nil nd) nd)) ⟨_, _, hz, rfl⟩ (fun i d y hy ⟨c, e, hfd, hd⟩ => ?_) (fun d ⟨c, e, hfd, hd⟩ => by
          rw [List.drop_eq_nil_of_le (Nat.le_refl _)] at hfd
          cases hfd))
      subst hd
      refine ⟨_, rfl, ?_⟩
      obtain ⟨p, q⟩ := y
      have hyr := ((mem_cands ok).mp (List.mem_of_getElem? hy)).1
      have hqn := hyr.2.2.1.lt
      have hdr : (cands t here).drop i = (p, q) :: (cands t here).drop (i + 1) := by
        have hi := (List.getElem?_eq_some_iff.mp hy).1
        have e := (List.getElem?_eq_some_iff.mp hy).2
        rw [List.drop_eq_getElem_cons hi, e]
      rw [hdr, List.find?_cons] at hfd
      refine hss_one (hs_if (t_notN (x_call (ok_text_between W) (hr.mono (by omega)) (a_cons (x_var 0) (a_cons (XL.xe (l_lst (a_cons (x_var 8) a_nil))) (a_cons (XL.xe (l_lst (a_cons (x_var 5) a_nil))) a_nil))) ⟨t, [q], [here], ok, one_lt hqn, by simp, rfl, rfl⟩)) (fun e => ?_) fun e => ?_)
      · have e : (between t [q] [here]).isSome = true := by
          cases hb : between t [q] [here] with
          | none => rw [hb] at e; cases e
          | some w => rfl
        have hfd : (match (between t [q] [here]).isSome with | true => some (p, q) | false => _) = some z := hfd
        rw [e] at hfd
        have hzz : (p, q) = z := by injection hfd
        subst hzz
        refine hss_seq (p4 ++ [.L ((found ++ [(p, q)]).map riseD), .d (.int here), .d (.lst ((cands t here).map riseD)), .d (.int p), .d (.int q)]) (fun Φ' h => hs_append 4 (x_tup (a_cons (x_var 7) (a_cons (x_var 8) a_nil))) rfl (by rw [List.length_map]; omega) (by rw [List.map_append] at h; exact h)) ?_
        refine hss_seq (p4 ++ [.L ((found ++ [(p, q)]).map riseD), .d (.int p), .d (.lst ((cands t here).map riseD)), .d (.int p), .d (.int q)]) (fun Φ' h => hs_set 5 nd (x_var 7) h) ?_
        refine hss_one (hs_break ⟨m, by omega, found ++ [(p, q)], p, _, _, _, (mem_useful ok).mpr zr.2.1, ?_, by have : Gm.lvl (gph t) p + 1 = _ := ze; omega, rfl⟩)
        rw [← hf, chainL_succ hz, List.append_assoc]
        rfl
      · have e : (between t [q] [here]).isSome = false := by
          cases hb : between t [q] [here] with
          | none => rfl
          | some w => rw [hb] at e; cases e
        have hfd : (match (between t [q] [here]).isSome with | true => some (p, q) | false => ((cands t here).drop (i + 1)).find? (fun z => (between t [z.2] [here]).isSome)) = some z := hfd
        rw [e] at hfd
        exact hss_nil ⟨.d (.int p), .d (.int q), hfd, rfl⟩
    · have hz : Gm.lvl (gph t) here = 0 := by
        have h : ¬ (0 : Int) < ((Gm.lvl (gph t) here : Nat) : Int) := of_decide_eq_false hq
        omega
      rw [hz] at hm
      subst hm
      have : found = chainL t (Gm.lvl (gph t) gl) gl := by rw [← hf]; show found = found ++ []; rw [List.append_nil]
      subst this
      exact ⟨_, _, _, _, rfl⟩
  · subst hd
    refine hss_one (hs_ret (XL.xe (l_rev (o_L 4))) ?_)
    show D.lst _ = D.lst ((chain t gl).map riseD)
    unfold chain
    rw [List.map_reverse]
def pre_power_paper (ds : List D) (x : D) : Prop := ∃ (t : Tal), t.Ok ∧ Gm.NoDbl (gph t) ∧ ds = [t.d] ∧ x = pPaperD t
theorem sc_power_paper : FnScope ["tally", "pairs", "levels", "rows", "top", "goal", "pieces", "here", "one", "other", "state", "level"] ["tally"] (defScope s_power_paper) := ⟨rfl, rfl, rfl, by decide +kernel, rfl, by decide +kernel, by decide +kernel⟩
theorem ok_power_paper (W : Wd K mg) : Fn P w K mg base "power_paper" 6 ["tally"] (FSp (TA K) pre_power_paper) := by
  refine mk_fn (d := d_power_paper) W 43 38 rfl rfl rfl rfl rfl sc_power_paper (fun ds x h => by obtain ⟨t, ok, ndb, rfl, rfl⟩ := h; rfl) (fun _ _ _ _ _ _ us hl => match us, hl with | [_], _ => rfl) fun f cdv A outer s0 H E Z ds x hp hr => ?_
  obtain ⟨t, ok, ndb, rfl, rfl⟩ := hp
  have nd := sc_power_paper.nd
  have hu := hr.units
  have l1 := ok.sml
  have l2 := useful_len (t := t)
  have ls : (starts t).length ≤ t.n := flt_len
  let p3 : List LV := [.d t.d, .d (.tup ((rises t).map riseD)), .d (lvlD t), .d (rowsD t)]
  refine hss_seq [.d t.d, .d (.tup ((rises t).map riseD)), .un, .un, .un, .un, .un, .un, .un, .un, .un, .un] (fun Φ' h => hs_set 1 nd (x_call (ok_rises W) (hr.mono (by omega)) (a_cons (x_var 0) a_nil) ⟨t, ok, rfl, rfl⟩) h) ?_
  refine hss_seq [.d t.d, .d (.tup ((rises t).map riseD)), .d (lvlD t), .un, .un, .un, .un, .un, .un, .un, .un, .un] (fun Φ' h => hs_set 2 nd (x_call (ok_least_levels W) (hr.mono (by omega)) (a_cons (x_var 0) (a_cons (x_var 1) a_nil)) ⟨t, ok, ndb, rfl, rfl⟩) h) ?_
  refine hss_seq (p3 ++ [.un, .un, .un, .un, .un, .un, .un, .un]) (fun Φ' h => hs_set 3 nd (XE.eq (x_tupL W.b_tuple (XE.r (x_sortItems (ns := (useful t).map fun (k : Nat) => (k : Int)) (ms := (useful t).map (lv t)) W.b_sorted (XE.r (XE.eq (x_var 2) (by
    show lvlD t = _
    unfold lvlD
    rw [List.map_map, List.map_map]
    rfl))) (asc_ints useful_asc)))) (by
      unfold rowsD
      rw [List.zip_map', List.map_map]
      rfl)) h) ?_
  refine hss_seq (p3 ++ [.d (.int (topL t : Int)), .un, .un, .un, .un, .un, .un, .un]) (fun Φ' h => hs_set 4 nd (XE.eq (x_max1 (ns := 0 :: (useful t).map (lv t)) W.b_max (XE.r (XE.eq (XL.xe (l_catL (XE.r (XL.xe (l_lst (a_cons x_int a_nil)))) (XE.r (XL.xe (l_vals W.b_list (XE.r (x_var 2))))) (sl_ok (by show 1 + (List.map _ _).length ≤ _; rw [List.length_map]; omega)))) (by show D.lst (D.int 0 :: List.map _ _) = _; rw [List.map_cons, List.map_map]; rfl))) (by simp)) (congrArg D.int mx_top)) h) ?_
  refine hss_guard (t_eq (x_var 4) x_int) (fun e => ?_) fun e => ?_
  · have e : topL t = 0 := by
      rw [vint_eq] at e
      have := of_decide_eq_true e
      omega
    refine hss_one (hs_ret (x_tup (a_cons (x_gstr rfl W.s_POWER) (a_cons (x_var 3) (a_cons (x_tup a_nil) (a_cons x_str a_nil))))) ?_)
    show _ = pPaperD t
    unfold pPaperD pBehind pChain
    rw [if_pos e, if_pos e]
    rfl
  · have e : topL t ≠ 0 := by
      rw [vint_eq] at e
      have := of_decide_eq_false e
      omega
    obtain ⟨g, r, hp, hg, hgl⟩ := peaks_ne (t := t) (by omega)
    have hpc : pChain t = chain t g := by
      unfold pChain
      rw [if_neg e, hp]
    have hfwd := fwd_at (chain_fwd ok ndb hg)
    have hcl := chain_len ok ndb hg
    have hgn := lvl_le ok ndb hg
    have hz2 : ∀ z ∈ chain t g, z.2 < t.n := fun z hz => by
      obtain ⟨i, hi⟩ := List.mem_iff_getElem?.mp hz
      exact (hfwd.1 i z hi).2.2.2.1.lt
    refine hss_seq (p3 ++ [.d (.int (topL t : Int)), .d (.int g), .un, .un, .un, .un, .un, .un]) (fun Φ' h => hs_set 5 nd (x_ixL (XE.r (XL.xe (l_lc [("state", 10), ("level", 11)] (.tup [10, 11]) (useful t) (levD t) (fun p => decide (lv t p = (topL t : Int))) (fun (p : Nat) => .int p) nd (i_tup (x_var 3)) (blkOk_by (by kernel_rfl)) (fun _ _ _ _ _ => g_tup (gs_cons 10 (gs_cons 11 gs_nil nd) nd)) (fun y hy => ⟨_, rfl, fun _ _ _ _ _ => ts_one (XT.eq (t_eq (x_var 11) (x_var 4)) vint_eq), fun _ _ _ _ _ _ => x_var 10⟩) (by omega)))) x_int (by
      show atI (stD (peaks t)) ((0 : Nat) : Int) = _
      exact stD_at (by rw [hp]; rfl))) h) ?_
    refine hss_seq (p3 ++ [.d (.int (topL t : Int)), .d (.int g), .L [], .d (.lst (stD (starts t))), .un, .un, .un, .un]) (fun Φ' h => hs_par 6 7 nd (.L (l_lst a_nil)) (.d (x_call (ok_starts_of W) (hr.mono (by omega)) (a_cons (x_var 0) a_nil) ⟨t, ok, rfl, rfl⟩)) h) ?_
    refine hss_cons (fun d => ∃ a b : LV, d = p3 ++ [.d (.int (topL t : Int)), .d (.int g), .L ((piecesL t (chain t g)).map pieceD), .d (.lst (stD (hereAt (starts t) (chain t g) (chain t g).length))), a, b, .un, .un])
      (hs_forT (t := .tup [8, 9]) (chain t g) riseD (fun i d => ∃ a b : LV, d = p3 ++ [.d (.int (topL t : Int)), .d (.int g), .L (((piecesL t (chain t g)).take i).map pieceD), .d (.lst (stD (hereAt (starts t) (chain t g) i))), a, b, .un, .un])
        (i_list (x_call (ok_chain_to W) (hr.mono (by omega)) (a_cons (x_var 0) (a_cons (x_var 1) (a_cons (x_var 2) (a_cons (x_var 5) a_nil)))) ⟨t, g, ok, ndb, hg, rfl, rfl⟩)) (g_tup (gs_cons 8 (gs_cons 9 gs_nil nd) nd)) ⟨_, _, rfl⟩ (fun i d z hz ⟨a, b, hd⟩ => ?_)
        (fun d ⟨a, b, hd⟩ => ⟨a, b, by rw [hd, ← pieces_len (t := t), List.take_length]⟩)) fun d ⟨a, b, hd⟩ => ?_
    · subst hd
      refine ⟨_, rfl, ?_⟩
      obtain ⟨hre, hri⟩ := hfwd.1 i z hz
      obtain ⟨e1, e2, _⟩ := piece_ok ok hre hri
      have hpa := pieces_at (t := t) hz
      have hil : i < (chain t g).length := (List.getElem?_eq_some_iff.mp hz).1
      have htk := take_map (f := pieceD) hpa
      refine hss_seq (p3 ++ [.d (.int (topL t : Int)), .d (.int g), .L (((piecesL t (chain t g)).take (i + 1)).map pieceD), .d (.lst (stD (hereAt (starts t) (chain t g) i))), .d (.int z.1), .d (.int z.2), .un, .un]) (fun Φ' h => hs_append 6 (x := pieceD (piece t (hereAt (starts t) (chain t g) i) z)) (x_tup (a_cons (XE.eq (x_call (ok_text_between W) (hr.mono (by omega)) (a_cons (x_var 0) (a_cons (x_var 7) (a_cons (XL.xe (l_lst (a_cons (x_var 8) a_nil))) a_nil))) ⟨t, _, [z.1], ok, hereAt_lt hz2 starts_lt (by omega), by have := hereAt_len (t := t) (l := chain t g) (i := i); omega, rfl, rfl⟩) (by rw [e1]; rfl)) (a_cons (x_var 8) (a_cons (XE.eq (x_call (ok_rise_loop W) (hr.mono (by omega)) (a_cons (x_var 0) (a_cons (x_var 8) (a_cons (x_var 9) a_nil))) ⟨t, z.1, z.2, ok, hri.2.1.lt, hri.2.2.1.lt, rfl, rfl⟩) (by rw [e2]; rfl)) (a_cons (x_var 9) a_nil))))) rfl (by rw [List.length_map, List.length_take]; omega) (by rw [htk] at h; exact h)) ?_
      have hh : hereAt (starts t) (chain t g) (i + 1) = [z.2] := by
        show [((chain t g).getD i (0, 0)).2] = _
        rw [List.getD_eq_getElem?_getD, hz]; rfl
      exact hss_one (hs_set 7 nd (XL.xe (l_lst (a_cons (x_var 9) a_nil))) ⟨.d (.int z.1), .d (.int z.2), by rw [hh]; rfl⟩)
    · subst hd
      obtain ⟨p, hp', gg, hgg, rr⟩ := hfwd.2
      have eb := getD_some (d := []) (b_isSome ok hp' hgg rr)
      refine hss_one (hs_ret (x_tup (a_cons (x_gstr rfl W.s_POWER) (a_cons (x_var 3) (a_cons (x_tupL W.b_tuple (o_L 6)) (a_cons (x_call (ok_text_between W) (hr.mono (by omega)) (a_cons (x_var 0) (a_cons (x_var 7) (a_cons (x_call (ok_goals_of W) (hr.mono (by omega)) (a_cons (x_var 0) a_nil) ⟨t, ok, rfl, rfl⟩) a_nil))) ⟨t, _, goals t, ok, hereAt_lt hz2 starts_lt (Nat.le_refl _), by have := hereAt_len (t := t) (l := chain t g) (i := (chain t g).length); omega, rfl, rfl⟩) a_nil))))) ?_)
      show _ = pPaperD t
      unfold pPaperD pBehind
      rw [if_neg e, hpc, eb]
      rfl
def pre_judge_growth (ds : List D) (x : D) : Prop := ∃ (t : Tal), t.Ok ∧ ds = [t.d] ∧ x = paperD t
theorem sc_judge_growth : FnScope ["tally", "paper"] ["tally"] (defScope s_judge_growth) := ⟨rfl, rfl, rfl, by decide +kernel, rfl, by decide +kernel, by decide +kernel⟩
theorem ok_judge_growth (W : Wd K mg) : Fn P w K mg base "judge_growth" 7 ["tally"] (FSp (TA K) pre_judge_growth) := by
  refine mk_fn (d := d_judge_growth) W 44 39 rfl rfl rfl rfl rfl sc_judge_growth (fun ds x h => by obtain ⟨t, ok, rfl, rfl⟩ := h; rfl) (fun _ _ _ _ _ _ us hl => match us, hl with | [_], _ => rfl) fun f cdv A outer s0 H E Z ds x hp hr => ?_
  obtain ⟨t, ok, rfl, rfl⟩ := hp
  have nd := sc_judge_growth.nd
  refine hss_seq [.d t.d, .d (dPaperD t)] (fun Φ' h => hs_set 1 nd (x_call (ok_doubling_paper W) (hr.mono (by omega)) (a_cons (x_var 0) a_nil) ⟨t, ok, rfl, rfl⟩) h) ?_
  have hn : isNon (dPaperD t) = decide (doubling t = []) := by
    unfold dPaperD
    cases doubling t <;> rfl
  refine hss_one (hs_ret (x_if (t_isN (x_var 1)) (fun e => ?_) (fun e => ?_)) (show paperD t = paperD t from rfl))
  · have e : doubling t = [] := by rw [hn] at e; exact of_decide_eq_true e
    have : paperD t = pPaperD t := by unfold paperD; rw [if_pos e]
    rw [this]
    exact x_call (ok_power_paper W) (hr.mono (by omega)) (a_cons (x_var 0) a_nil) ⟨t, ok, (dbl_nil ok).mp e, rfl, rfl⟩
  · have e : doubling t ≠ [] := by rw [hn] at e; exact of_decide_eq_false e
    have : paperD t = dPaperD t := by unfold paperD; rw [if_neg e]
    rw [this]
    exact x_var 1
end
end Tly
end
section
set_option Elab.async false
set_option linter.all false
set_option maxRecDepth 100000
set_option maxHeartbeats 2000000
namespace Tly
open PySem PySem.Spec PyProof.Rows L2 Dl
section
variable {α : Type} [DecidableEq α] {pg eg : α → Bool} {succ : α → List (Nat × α)}
theorem bfsIn_len {txt w : List Nat} : ∀ (es : List (Nat × α)) (ns : List (α × List Nat)), (Gm.bfsIn eg txt es ns).1 = some w → w.length = txt.length + 1
  | [], _, h => by cases h
  | (c, q) :: es, ns, h => by
    cases hq : eg q with
    | true =>
      rw [in_hit hq] at h
      injection h with h
      rw [← h]; simp
    | false =>
      cases hk : Gm.known ns q with
      | true => rw [in_old hq hk] at h; exact bfsIn_len es ns h
      | false => rw [in_new hq hk] at h; exact bfsIn_len es _ h
theorem bfs_len {U : List α} (hU : ∀ q ∈ U, ∀ z ∈ succ q, z.2 ∈ U) {w : List Nat} : ∀ (fuel : Nat) (ns : List (α × List Nat)) (at' : Nat), Gm.Kp U ns → Gm.bfs pg eg succ fuel ns at' = some w → w.length ≤ U.length
  | 0, _, _, _, h => by cases h
  | fuel + 1, ns, at', Kk, h => by
    cases e : ns[at']? with
    | none =>
      rw [bfs_end (List.getElem?_eq_none_iff.mp e)] at h
      cases h
    | some z =>
      obtain ⟨q, txt⟩ := z
      have h1 := Kk.txt at' q txt e
      have h2 := Kk.len
      have h3 := (List.getElem?_eq_some_iff.mp e).1
      cases hp : pg q with
      | true =>
        rw [bfs_page e hp] at h
        injection h with h
        rw [← h]; omega
      | false =>
        cases hi : Gm.bfsIn eg txt (succ q) ns with
        | mk a b =>
          cases a with
          | some r =>
            have hr : (Gm.bfsIn eg txt (succ q) ns).1 = some r := by rw [hi]
            rw [bfs_hit e hp hr] at h
            injection h with h
            have := bfsIn_len _ _ hr
            rw [← h]; omega
          | none =>
            rw [bfs_go e hp hi] at h
            have := (Gm.bfsIn_keep (eg := eg) (txt := txt) (succ q) ns Kk (hU q (Kk.sub q (List.mem_map.mpr ⟨_, List.mem_of_getElem? e, rfl⟩))) (by omega)).1
            rw [hi] at this
            exact bfs_len hU fuel b (at' + 1) this h
end
theorem dLoop_len {t : Tal} (h : t.Ok) {s : Nat} (hs : s < t.n) {w : List Nat} (e : dLoop t s = some w) : w.length ≤ 1000 := by
  have := bfs_len (d_sub h) _ _ _ (d_kp hs) e
  have := dAll_len h
  omega
theorem rLoop_len {t : Tal} (h : t.Ok) {p q : Nat} (hp : p < t.n) (hq : q < t.n) {w : List Nat} (e : rLoop t p q = some w) : w.length ≤ 1000 := by
  have := bfs_len (r_sub h) _ _ _ (r_kp hp hq) e
  have := rAll_len h
  omega
theorem between_len {t : Tal} (h : t.Ok) {S T : List Nat} {w : List Nat} (e : between t S T = some w) : w.length ≤ 1000 := by
  have := bfs_len (b_sub h) _ _ _ (b_kp (t := t) (S := S)) e
  rw [List.length_range] at this
  have := h.sml
  omega
theorem dg_lt {t : Tal} (h : t.Ok) {c : Nat} (hc : c ∈ t.dg) : 48 ≤ c ∧ c ≤ 57 := by
  have := h.dgs
  simp at this
  rcases this with e | e | e | e <;> rw [e] at hc <;> simp at hc <;> omega
theorem lay_mkS {u : List Nat} (h : ∀ c ∈ u, c < 1114112) : (PyData.str (mkS u)).canLay0 = true := by
  show (u.toArray.all (· < 0x110000)) = true
  rw [List.all_toArray, List.all_eq_true]
  exact fun c hc => decide_eq_true (h c hc)
theorem lay_path {t : Tal} (h : t.Ok) {p q : Nat} {u : List Nat} (k : Gm.Path (gph t) p u q) : (PyData.str (mkS u)).canLay0 = true := lay_mkS fun c hc => by have := dg_lt h (path_dg k c hc); omega
theorem vmk_ne {u : List Nat} (h : u ≠ []) : decide (V.str (mkS u) = V.str "") = false := decide_eq_false fun e => h (by
  injection e with e
  have : (mkS u).cps.toList = ("" : Str).cps.toList := by rw [e]
  rw [mkS_list] at this
  exact this)
/-- what the paper of a doubling holds -/
theorem dp_facts {t : Tal} (h : t.Ok) {s : Nat} {r : List Nat} (e : doubling t = s :: r) : s < t.n ∧ ∃ w1 w2 w3, between t (starts t) [s] = some w1 ∧ dLoop t s = some w2 ∧ between t [s] (goals t) = some w3 ∧ (∃ p ∈ starts t, Gm.Path (gph t) p w1 s) ∧ Gm.PW (gph t) s s w2 s s true ∧ ∃ q ∈ goals t, Gm.Path (gph t) s w3 q := by
  have hm : s ∈ doubling t := by rw [e]; exact List.mem_cons_self
  have hs := doubling_lt hm
  obtain ⟨⟨⟨a, ha, ra⟩, b, hb, rb⟩, _⟩ := (mem_doubling h).mp hm
  obtain ⟨w1, e1⟩ := b_isSome h (S := starts t) (T := [s]) (mem_starts.mpr ⟨ra.lt0, ha⟩) (by simp) ra
  obtain ⟨w3, e3⟩ := b_isSome h (S := [s]) (T := goals t) (by simp) (mem_goals.mpr ⟨rb.lt, hb⟩) rb
  obtain ⟨w2, e2⟩ := Option.isSome_iff_exists.mp (List.mem_filter.mp hm).2
  obtain ⟨p, hp, q, hq, k⟩ := b_some h e1
  rw [List.mem_singleton.mp hq] at k
  obtain ⟨p', hp', q', hq', k'⟩ := b_some h e3
  rw [List.mem_singleton.mp hp'] at k'
  exact ⟨hs, w1, w2, w3, e1, e2, e3, ⟨p, hp, k⟩, d_some h hs e2, q', hq', k'⟩
section
variable {P : Program} {w : World} {K : PySem.W.Frag} {mg : Str → Option Value} {base : Heap}
def pre_is_ticket (ds : List D) (x : D) : Prop := ∃ (dg u : List Nat), (∀ c ∈ u, c ∈ dg) ∧ u.length ≤ 1000 ∧ ds = [.str (mkS dg), .str (mkS u)] ∧ x = .bl true
theorem sc_is_ticket : FnScope ["digits", "thing", "sign"] ["digits", "thing"] (defScope s_is_ticket) := ⟨rfl, rfl, rfl, by decide +kernel, rfl, by decide +kernel, by decide +kernel⟩
theorem ok_is_ticket (W : Wd K mg) : Fn P w K mg base "is_ticket" 1 ["digits", "thing"] (FSp (TA K) pre_is_ticket) := by
  refine mk_fn (d := d_is_ticket) W 10 10 rfl rfl rfl rfl rfl sc_is_ticket (fun ds x h => by obtain ⟨dg, u, hu, hl, rfl, rfl⟩ := h; rfl) (fun _ _ _ _ _ _ us hl => match us, hl with | [_, _], _ => rfl) fun f cdv A outer s0 H E Z ds x hp hr => ?_
  obtain ⟨dg, u, hu, hl, rfl, rfl⟩ := hp
  have nd := sc_is_ticket.nd
  refine hss_one (hs_ret (x_and (p := true) (q := true) (x_isi (ty := "str") W.b_isinstance (x_var 1) (fun _ z => (by cases z)) W.b_str rfl rfl) fun _ => x_one (XE.eq (x_allM u (fun c => decide (c ∈ dg)) W.b_all
      (XE.r (XL.xe (l_map [("sign", 2)] (.one 2) u (fun c => D.str (sg c)) _ nd (XI.eq (i_str (x_var 1)) signs_mkS) (blkOk_by (by kernel_rfl)) (fun _ _ _ _ _ => g_name 2 nd) (fun c hc => ⟨_, rfl, fun _ _ _ _ _ => XE.eq (x_inS (x_var 2) (x_var 0)) (by rw [mkS_list])⟩) (by omega))))) (congrArg D.bl ?_))) rfl)
  rw [List.all_eq_true]
  exact fun c hc => decide_eq_true (hu c hc)
def pre_doubles_hold (ds : List D) (x : D) : Prop := ∃ (t : Tal), t.Ok ∧ doubling t ≠ [] ∧ ds = [t.d, dPaperD t] ∧ x = .bl true
theorem sc_doubles_hold : FnScope ["tally", "thing", "word", "ahead", "state", "loop", "behind", "ticket"] ["tally", "thing"] (defScope s_doubles_hold) := ⟨rfl, rfl, rfl, by decide +kernel, rfl, by decide +kernel, by decide +kernel⟩
theorem ok_doubles_hold (W : Wd K mg) : Fn P w K mg base "doubles_hold" 5 ["tally", "thing"] (FSp (TA K) pre_doubles_hold) := by
  refine mk_fn (d := d_doubles_hold) W 46 41 rfl rfl rfl rfl rfl sc_doubles_hold (fun ds x h => by obtain ⟨t, ok, ne, rfl, rfl⟩ := h; rfl) (fun _ _ _ _ _ _ us hl => match us, hl with | [_, _], _ => rfl) fun f cdv A outer s0 H E Z ds x hp hr => ?_
  obtain ⟨t, ok, ne, rfl, rfl⟩ := hp
  have nd := sc_doubles_hold.nd
  obtain ⟨s, r, es⟩ : ∃ s r, doubling t = s :: r := by
    cases q : doubling t with
    | nil => exact absurd q ne
    | cons s r => exact ⟨s, r, rfl⟩
  obtain ⟨hs, w1, w2, w3, e1, e2, e3, ⟨p, hp, k1⟩, k2, q, hq, k3⟩ := dp_facts ok es
  have ed : dPaperD t = .tup [.str "doubles", .str (mkS w1), .int s, .str (mkS w2), .str (mkS w3)] := by
    unfold dPaperD
    rw [es]
    show D.tup [_, lpD (between t (starts t) [s]), _, lpD (dLoop t s), lpD (between t [s] (goals t))] = _
    rw [e1, e2, e3]
    rfl
  rw [ed]
  have n1 := between_len ok e1
  have n2 := dLoop_len ok hs e2
  have n3 := between_len ok e3
  have l1 := ok.sml
  have lg : (goals t).length ≤ t.n := flt_len
  have hall : ∀ u ∈ [w1, w2, w3], (∀ c ∈ u, c ∈ t.dg) ∧ u.length ≤ 1000 := by
    intro u hu
    simp only [List.mem_cons, List.not_mem_nil, or_false] at hu
    rcases hu with rfl | rfl | rfl
    · exact ⟨path_dg k1, n1⟩
    · exact ⟨path_dg k2.left, n2⟩
    · exact ⟨path_dg k3, n3⟩
  let δ1 : List LV := [.d t.d, .d (.tup [.str "doubles", .str (mkS w1), .int s, .str (mkS w2), .str (mkS w3)]), .d (.str "doubles"), .d (.str (mkS w1)), .d (.int s), .d (.str (mkS w2)), .d (.str (mkS w3)), .un]
  refine hss_seq δ1 (fun Φ' h => hs_unpack (g_tup (gs_cons 2 (gs_cons 3 (gs_cons 4 (gs_cons 5 (gs_cons 6 gs_nil nd) nd) nd) nd) nd)) (x_var 1) rfl h) ?_
  refine hss_skip (XT.eq (XW.t (w_or (t_not (t_val (XE.eq (x_allM [w1, w2, w3] (fun _ => true) W.b_all
      (XE.r (XL.xe (l_map [("ticket", 7)] (.one 7) [w1, w2, w3] (fun u => D.str (mkS u)) _ nd (i_tup (x_tup (a_cons (x_var 3) (a_cons (x_var 5) (a_cons (x_var 6) a_nil))))) (blkOk_by (by kernel_rfl)) (fun _ _ _ _ _ => g_name 7 nd) (fun u hu => ⟨_, rfl, fun _ _ _ _ _ => x_call (ok_is_ticket W) (hr.mono (by omega)) (a_cons (x_fld 0 W.cls W.na_digits (x_var 0)) (a_cons (x_var 7) a_nil)) ⟨t.dg, u, (hall u hu).1, (hall u hu).2, rfl, rfl⟩⟩) (by simp))))) rfl))) fun _ => w_or1 (t_eq (x_var 5) x_str))) (by rw [vmk_ne k2.nonempty]; rfl)) ?_
  refine hss_skip (XT.eq (t_not (t_val (x_call (ok_is_state W) (hr.mono (by omega)) (a_cons (x_var 0) (a_cons (x_var 4) a_nil)) ⟨t, s, ok, hs, rfl, rfl⟩))) rfl) ?_
  refine hss_skip (XT.eq (XW.t (w_or (t_not (t_val (x_call (ok_leads W) (hr.mono (by omega)) (a_cons (x_var 0) (a_cons (x_var 3) (a_cons (x_call (ok_starts_of W) (hr.mono (by omega)) (a_cons (x_var 0) a_nil) ⟨t, ok, rfl, rfl⟩) (a_cons (XL.xe (l_lst (a_cons (x_var 4) a_nil))) a_nil)))) ⟨t, w1, starts t, [s], ok, one_lt hs, by simp, rfl, rfl⟩))) fun _ => w_or1 (t_not (t_val (x_call (ok_leads W) (hr.mono (by omega)) (a_cons (x_var 0) (a_cons (x_var 6) (a_cons (XL.xe (l_lst (a_cons (x_var 4) a_nil))) (a_cons (x_call (ok_goals_of W) (hr.mono (by omega)) (a_cons (x_var 0) a_nil) ⟨t, ok, rfl, rfl⟩) a_nil)))) ⟨t, w3, [s], goals t, ok, goals_lt, by omega, rfl, rfl⟩))))) (by rw [leads_of ok hp (by simp) k1, leads_of ok (S := [s]) (by simp) hq k3]; rfl)) ?_
  refine hss_one (hs_ret (x_gt (x_ixL (XE.r (x_call (ok_few_ways W) (hr.mono (by omega)) (a_cons (x_var 0) (a_cons (x_var 5) (a_cons (XL.xe (l_lst (a_cons (x_var 4) a_nil))) a_nil))) ⟨t, w2, [s], ok, rfl, rfl⟩)) (x_var 4) (row_at (by have := fold_ent_len (t := t) (S := [s]) w2; show s < (fewWays t w2 [s]).length; unfold fewWays; omega))) x_int) ?_)
  have := few_dbl ok k2
  show D.bl _ = D.bl true
  exact congrArg D.bl (decide_eq_true (by omega))
theorem rows_zip {t : Tal} : zipD ((useful t).map (levD t)) (stD (useful t)) = (useful t).map fun p => D.tup [levD t p, .int p] := by
  unfold zipD stD
  rw [List.zip_map', List.map_map]
  rfl
def pre_levels_hold (ds : List D) (x : D) : Prop := ∃ (t : Tal), t.Ok ∧ Gm.NoDbl (gph t) ∧ ds = [t.d, rowsD t] ∧ x = .bl true
theorem sc_levels_hold : FnScope ["tally", "thing", "some", "row", "state", "levels", "digit", "spot", "number", "one", "other"] ["tally", "thing"] (defScope s_levels_hold) := ⟨rfl, rfl, rfl, by decide +kernel, rfl, by decide +kernel, by decide +kernel⟩
theorem ok_levels_hold (W : Wd K mg) : Fn P w K mg base "levels_hold" 6 ["tally", "thing"] (FSp (TA K) pre_levels_hold) := by
  refine mk_fn (d := d_levels_hold) W 47 42 rfl rfl rfl rfl rfl sc_levels_hold (fun ds x h => by obtain ⟨t, ok, ndb, rfl, rfl⟩ := h; rfl) (fun _ _ _ _ _ _ us hl => match us, hl with | [_, _], _ => rfl) fun f cdv A outer s0 H E Z ds x hp hr => ?_
  obtain ⟨t, ok, ndb, rfl, rfl⟩ := hp
  have nd := sc_levels_hold.nd
  have hu := hr.units
  have hu1 := Nat.lt_of_le_of_lt (Nat.add_le_add_left (show 1 ≤ 64 by decide) _) hu
  have l1 := ok.sml
  have l2 := useful_len (t := t)
  have l4 := rises_len ok
  refine hss_seq [.d t.d, .d (rowsD t), .d (.tup (stD (useful t))), .un, .un, .un, .un, .un, .un, .un, .un] (fun Φ' h => hs_set 2 nd (x_call (ok_useful W) (hr.mono (by omega)) (a_cons (x_var 0) a_nil) ⟨t, ok, rfl, rfl⟩) h) ?_
  refine hss_skip (XT.eq (XW.t (w_or (t_not (t_val (x_isi (ty := "tuple") W.b_isinstance (x_var 1) (fun _ z => (by cases z)) W.b_tuple rfl rfl))) fun _ => w_or1 (t_ne (x_lenT W.b_len (XE.r (x_var 1))) (x_lenT W.b_len (XE.r (x_var 2)))))) (by
    unfold stD
    rw [List.length_map, List.length_map]
    simp)) ?_
  refine hss_cons (fun d => ∃ a b : LV, d = [.d t.d, .d (rowsD t), .d (.tup (stD (useful t))), a, b, .un, .un, .un, .un, .un, .un])
    (hs_forT (t := .tup [3, 4]) (useful t) (fun p => D.tup [levD t p, .int p]) (fun i d => ∃ a b : LV, d = [.d t.d, .d (rowsD t), .d (.tup (stD (useful t))), a, b, .un, .un, .un, .un, .un, .un])
      (XI.eq (i_zipTT W.b_zip (x_var 1) (x_var 2) (by unfold stD; rw [List.length_map, List.length_map])) rows_zip) (g_tup (gs_cons 3 (gs_cons 4 gs_nil nd) nd)) ⟨_, _, rfl⟩ (fun i d p hp ⟨a, b, hd⟩ => ?_) (fun d h => h)) fun d ⟨a, b, hd⟩ => ?_
  · subst hd
    refine ⟨_, rfl, ?_⟩
    refine hss_skip (XT.eq (XW.t (w_or (t_not (t_val (x_isi (ty := "tuple") W.b_isinstance (x_var 3) (fun _ z => (by cases z)) W.b_tuple rfl rfl))) fun _ => w_or (t_ne (x_lenT W.b_len (XE.r (x_var 3))) (x_gint rfl W.i_LEVEL_PARTS)) fun _ => w_or (t_not (t_val (x_call (ok_is_integer_growthpapers W) (hr.mono (by omega)) (a_cons (x_ixT (XE.r (x_var 3)) x_int rfl) a_nil) ⟨_, rfl, rfl⟩))) fun _ => w_or1 (t_ne (x_ixT (XE.r (x_var 3)) x_int rfl) (x_var 4)))) (by simp)) ?_
    refine hss_skip (XT.eq (XW.t (w_or (t_not (t_val (x_call (ok_is_integer_growthpapers W) (hr.mono (by omega)) (a_cons (x_ixT (XE.r (x_var 3)) x_int rfl) a_nil) ⟨_, rfl, rfl⟩))) fun _ => w_or1 (t_lt (x_ixT (XE.r (x_var 3)) x_int rfl) x_int))) (by
      have : ¬ (lv t p < 0) := by unfold lv; omega
      rw [decide_eq_false this]; rfl)) ?_
    exact hss_nil ⟨_, _, rfl⟩
  subst hd
  refine hss_drop 3 (hss_drop 4 ?_)
  refine hss_seq [.d t.d, .d (rowsD t), .d (.tup (stD (useful t))), .un, .un, .M (lvK (useful t)) (lvV (useful t) (lv t)), .un, .un, .un, .un, .un] (fun Φ' h => hs_setM 5 nd (m_dc [("row", 3)] (.one 3) (useful t) (levD t) (fun (p : Nat) => (Sum.inl (p : Int) : Key)) (fun (p : Nat) => .int p) (fun p => .int (lv t p)) nd (i_tup (x_var 1)) (blkOk_by (by kernel_rfl)) (fun _ _ _ _ _ => g_name 3 nd)
    (fun p hp => ⟨_, rfl, rfl, fun _ _ _ _ _ => x_ixT (XE.r (x_var 3)) x_int rfl, fun _ _ _ _ _ => x_ixT (XE.r (x_var 3)) x_int rfl⟩) (List.pairwise_map.mpr (useful_asc.imp fun h => fun e => by have := inlN_inj _ _ e; omega)) (by omega)) h) ?_
  refine hss_frM 5 ?_
  refine hss_cons (fun d => ∃ b : LV, d = [.d t.d, .d (rowsD t), .d (.tup (stD (useful t))), .un, b, .d (lvlD t), .un, .un, .un, .un, .un])
    (hs_forT (t := .one 4) (useful t) (fun (k : Nat) => .int k) (fun i d => ∃ b : LV, d = [.d t.d, .d (rowsD t), .d (.tup (stD (useful t))), .un, b, .d (lvlD t), .un, .un, .un, .un, .un])
      (i_tup (x_var 2)) (g_name 4 nd) ⟨_, rfl⟩ (fun i d p hp ⟨b, hd⟩ => ?_) (fun d h => h)) fun d ⟨b, hd⟩ => ?_
  · subst hd
    refine ⟨_, rfl, ?_⟩
    have hpu := List.mem_of_getElem? hp
    have hpl := useful_lt hpu
    have ls := steps_len ok hpl
    refine hss_skip (XT.eq (t_val (x_anyM (stepsOf t p) (fun y => decide (y.2.1 ∈ useful t) && decide (lv t y.2.1 < lv t p)) W.b_any
      (XE.r (XL.xe (l_map [("digit", 6), ("spot", 7), ("number", 8)] (.tup [6, 7, 8]) (stepsOf t p) stepD _ nd (i_list (x_call (ok_steps_of W) (hr.mono (by omega)) (a_cons (x_var 0) (a_cons (x_var 4) a_nil)) ⟨t, p, ok, hpl, rfl, rfl⟩)) (blkOk_by (by kernel_rfl)) (fun _ _ _ _ _ => g_tup (gs_cons 6 (gs_cons 7 (gs_cons 8 gs_nil nd) nd) nd)) (fun y hy => ⟨_, rfl, fun _ _ _ _ _ => x_and (XE.eq (x_din hu1 (x_var 7) (XE.r (x_var 5)) rfl) (congrArg D.bl lv_has)) fun e => x_one (x_lt (x_dget hu1 (XE.r (x_var 5)) (x_var 7) rfl (lv_get (of_decide_eq_true e))) (x_dget hu1 (XE.r (x_var 5)) (x_var 4) rfl (lv_get hpu)))⟩) (by omega)))))) ?_) ?_
    · rw [List.any_eq_false]
      rintro ⟨c, q, x⟩ hy
      obtain ⟨hc, hq, ex, hx⟩ := (mem_steps ok hpl).mp hy
      rw [Bool.and_eq_true]
      rintro ⟨a, b⟩
      have a : q ∈ useful t := of_decide_eq_true a
      have b : lv t q < lv t p := of_decide_eq_true b
      have := Gm.lvl_move ndb ((mem_useful ok).mp hpu) ((mem_useful ok).mp a) ⟨[c], Gm.Path.one hpl hq hc (gph_pos.mpr (ex ▸ hx))⟩
      unfold lv at b
      omega
    · exact hss_nil ⟨_, rfl⟩
  subst hd
  refine hss_one (hs_ret (x_allM (rises t) (fun z => decide (lv t z.1 < lv t z.2)) W.b_all
      (XE.r (XL.xe (l_map [("one", 9), ("other", 10)] (.tup [9, 10]) (rises t) riseD _ nd (i_tup (x_call (ok_rises W) (hr.mono (by omega)) (a_cons (x_var 0) a_nil) ⟨t, ok, rfl, rfl⟩)) (blkOk_by (by kernel_rfl)) (fun _ _ _ _ _ => g_tup (gs_cons 9 (gs_cons 10 gs_nil nd) nd)) (fun y hy => ⟨_, rfl, fun _ _ _ _ _ => x_lt (x_dget hu1 (XE.r (x_var 5)) (x_var 9) rfl (lv_get ((mem_useful ok).mpr ((mem_rises ok (p := y.1) (q := y.2)).mp hy).2.1))) (x_dget hu1 (XE.r (x_var 5)) (x_var 10) rfl (lv_get ((mem_useful ok).mpr ((mem_rises ok (p := y.1) (q := y.2)).mp hy).2.2.1)))⟩) (by omega))))) ?_)
  show D.bl _ = D.bl true
  refine congrArg D.bl ?_
  rw [List.all_eq_true]
  rintro ⟨p, q⟩ hz
  have := Gm.lvl_rise ndb ((mem_rises ok).mp hz)
  exact decide_eq_true (by show lv t p < lv t q; unfold lv; omega)
end
end Tly
end
section
set_option Elab.async false
set_option linter.all false
set_option maxRecDepth 100000
set_option maxHeartbeats 2000000
namespace Tly
open PySem PySem.Spec PyProof.Rows L2 Dl
theorem kind_pos {t : Tal} (h : doubling t = []) : kind t = (topL t : Int) := by unfold kind; rw [if_pos h]
theorem kind_neg {t : Tal} (h : doubling t ≠ []) : kind t = -1 := by unfold kind; rw [if_neg h]
theorem okDs_mem {n : Nat} : ∀ {ds : List D}, (∀ d ∈ ds, okD n d = true) → okDs n ds = true
  | [], _ => by unfold okDs; rfl
  | d :: ds, h => by unfold okDs; rw [h d (by simp), okDs_mem fun x hx => h x (by simp [hx])]; rfl
theorem ok_pieceD {t : Tal} (h : t.Ok) {S : List Nat} {z : Nat × Nat} (hr : ∃ p ∈ S, Gm.Reach (gph t) p z.1) (r : Gm.Rise (gph t) z.1 z.2) {n : Nat} : okD (n + 1) (pieceD (piece t S z)) = true := by
  obtain ⟨_, _, ⟨p, hp, k⟩, l, _⟩ := piece_ok h hr r
  have e1 := lay_path h k
  have e2 := lay_path h l.1
  show okDs n [.str (mkS (piece t S z).1), .int (piece t S z).2.1, .str (mkS (piece t S z).2.2.1), .int (piece t S z).2.2.2] = true
  refine okDs_mem fun d hd => ?_
  simp only [List.mem_cons, List.not_mem_nil, or_false] at hd
  rcases hd with rfl | rfl | rfl | rfl
  · cases n <;> (unfold okD; exact e1)
  · cases n <;> rfl
  · cases n <;> (unfold okD; exact e2)
  · cases n <;> rfl
theorem lay_doubles : (PyData.str "doubles").canLay0 = true := by decide +kernel
theorem lay_power : (PyData.str "power").canLay0 = true := by decide +kernel
/-- all of the chain of the paper -/
theorem pc_facts {t : Tal} (h : t.Ok) (nd : Gm.NoDbl (gph t)) : (pChain t).length = topL t ∧ (∀ i z, (pChain t)[i]? = some z → (∃ p ∈ hereAt (starts t) (pChain t) i, Gm.Reach (gph t) p z.1) ∧ Gm.Rise (gph t) z.1 z.2) ∧ (topL t = 0 → pBehind t = []) ∧ (topL t ≠ 0 → between t (hereAt (starts t) (pChain t) (pChain t).length) (goals t) = some (pBehind t) ∧ ∃ p ∈ hereAt (starts t) (pChain t) (pChain t).length, ∃ q ∈ goals t, Gm.Path (gph t) p (pBehind t) q) := by
  by_cases e : topL t = 0
  · have hc : pChain t = [] := by unfold pChain; rw [if_pos e]
    rw [hc]
    exact ⟨by rw [e]; rfl, fun i z hz => by simp at hz, fun _ => by unfold pBehind; rw [if_pos e], fun n => absurd e n⟩
  · obtain ⟨g, r, hp, hg, hgl⟩ := peaks_ne (t := t) (by omega)
    have hpc : pChain t = chain t g := by
      unfold pChain
      rw [if_neg e, hp]
    have hfwd := fwd_at (chain_fwd h nd hg)
    obtain ⟨p, hp', gg, hgg, rr⟩ := hfwd.2
    have eb := getD_some (d := []) (b_isSome h hp' hgg rr)
    have ebh : pBehind t = (between t (hereAt (starts t) (pChain t) (pChain t).length) (goals t)).getD [] := by unfold pBehind; rw [if_neg e]
    rw [← hpc] at hfwd eb
    rw [← ebh] at eb
    exact ⟨by rw [hpc, chain_len h nd hg, hgl], hfwd.1, fun n => absurd n e, fun _ => ⟨eb, b_some h eb⟩⟩
section
variable {P : Program} {w : World} {K : PySem.W.Frag} {mg : Str → Option Value} {base : Heap}
def pre_piece_holds (ds : List D) (x : D) : Prop := ∃ (t : Tal) (S : List Nat) (z : Nat × Nat), t.Ok ∧ (∃ p ∈ S, Gm.Reach (gph t) p z.1) ∧ Gm.Rise (gph t) z.1 z.2 ∧ ds = [t.d, pieceD (piece t S z), .lst (stD S)] ∧ x = .bl true
theorem sc_piece_holds : FnScope ["tally", "thing", "here", "ahead", "one", "loop", "other", "some"] ["tally", "thing", "here"] (defScope s_piece_holds) := ⟨rfl, rfl, rfl, by decide +kernel, rfl, by decide +kernel, by decide +kernel⟩
theorem ok_piece_holds (W : Wd K mg) : Fn P w K mg base "piece_holds" 5 ["tally", "thing", "here"] (FSp (TA K) pre_piece_holds) := by
  refine mk_fn (d := d_piece_holds) W 48 43 rfl rfl rfl rfl rfl sc_piece_holds (fun ds x h => by obtain ⟨t, S, z, ok, hre, hri, rfl, rfl⟩ := h; rfl) (fun _ _ _ _ _ _ us hl => match us, hl with | [_, _, _], _ => rfl) fun f cdv A outer s0 H E Z ds x hp hr => ?_
  obtain ⟨t, S, z, ok, hre, hri, rfl, rfl⟩ := hp
  have nd := sc_piece_holds.nd
  obtain ⟨e1, e2, ⟨p, hp, k1⟩, l, ne⟩ := piece_ok ok hre hri
  obtain ⟨p1, p2⟩ := z
  generalize hpc : piece t S (p1, p2) = pc at *
  have hq1 : pc.2.1 = p1 := by rw [← hpc]; rfl
  have hq2 : pc.2.2.2 = p2 := by rw [← hpc]; rfl
  obtain ⟨w1, q1, w2, q2⟩ := pc
  have hq1 : q1 = p1 := hq1
  have hq2 : q2 = p2 := hq2
  subst hq1 hq2
  have hl1 := hri.2.1.lt
  have hl2 := hri.2.2.1.lt
  have n1 : w1.length ≤ 1000 := between_len ok e1
  have n2 : w2.length ≤ 1000 := rLoop_len ok hl1 hl2 e2
  have u1 := (mem_useful ok).mpr hri.2.1
  have u2 := (mem_useful ok).mpr hri.2.2.1
  have d1 := path_dg k1
  have d2 := path_dg l.1
  refine hss_skip (XT.eq (XW.t (w_or (t_not (t_val (x_isi (ty := "tuple") W.b_isinstance (x_var 1) (fun _ z => (by cases z)) W.b_tuple rfl rfl))) fun _ => w_or1 (t_ne (x_lenT W.b_len (XE.r (x_var 1))) (x_gint rfl W.i_PIECE_PARTS)))) (by simp)) ?_
  let δ1 : List LV := [.d t.d, .d (pieceD (w1, q1, w2, q2)), .d (.lst (stD S)), .d (.str (mkS w1)), .d (.int q1), .d (.str (mkS w2)), .d (.int q2), .un]
  refine hss_seq δ1 (fun Φ' h => hs_unpack (g_tup (gs_cons 3 (gs_cons 4 (gs_cons 5 (gs_cons 6 gs_nil nd) nd) nd) nd)) (x_var 1) rfl h) ?_
  refine hss_skip (XT.eq (XW.t (w_or (t_not (t_val (x_call (ok_is_ticket W) (hr.mono (by omega)) (a_cons (x_fld 0 W.cls W.na_digits (x_var 0)) (a_cons (x_var 3) a_nil)) ⟨t.dg, w1, d1, n1, rfl, rfl⟩))) fun _ => w_or (t_not (t_val (x_call (ok_is_ticket W) (hr.mono (by omega)) (a_cons (x_fld 0 W.cls W.na_digits (x_var 0)) (a_cons (x_var 5) a_nil)) ⟨t.dg, w2, d2, n2, rfl, rfl⟩))) fun _ => w_or1 (t_eq (x_var 5) x_str))) (by rw [vmk_ne ne]; rfl)) ?_
  refine hss_seq (δ1.set 7 (.d (.tup (stD (useful t))))) (fun Φ' h => hs_set 7 nd (x_call (ok_useful W) (hr.mono (by omega)) (a_cons (x_var 0) a_nil) ⟨t, ok, rfl, rfl⟩) h) ?_
  have m1 : decide (((q1 : Nat) : Int) ∈ (useful t).map fun (k : Nat) => (k : Int)) = true := decide_eq_true (mem_ints.mpr u1)
  have m2 : decide (((q2 : Nat) : Int) ∈ (useful t).map fun (k : Nat) => (k : Int)) = true := decide_eq_true (mem_ints.mpr u2)
  have m3 : decide (V.int (q1 : Int) = V.int (q2 : Int)) = false := by rw [vnat_eq]; exact decide_eq_false hri.1
  refine hss_skip (XT.eq (XW.t (w_or (t_not (t_val (x_call (ok_is_integer_growthpapers W) (hr.mono (by omega)) (a_cons (x_var 4) a_nil) ⟨_, rfl, rfl⟩))) fun _ => w_or (t_not (t_val (x_call (ok_is_integer_growthpapers W) (hr.mono (by omega)) (a_cons (x_var 6) a_nil) ⟨_, rfl, rfl⟩))) fun _ => w_or (t_ninT (ns := (useful t).map fun (k : Nat) => (k : Int)) (x_var 4) (XE.r (XE.eq (x_var 7) (by rw [stD_ints])))) fun _ => w_or (t_ninT (ns := (useful t).map fun (k : Nat) => (k : Int)) (x_var 6) (XE.r (XE.eq (x_var 7) (by rw [stD_ints])))) fun _ => w_or1 (t_eq (x_var 4) (x_var 6)))) (by rw [m1, m2, m3]; rfl)) ?_
  refine hss_skip (XT.eq (XW.t (w_or (t_not (t_val (x_call (ok_leads W) (hr.mono (by omega)) (a_cons (x_var 0) (a_cons (x_var 3) (a_cons (x_var 2) (a_cons (XL.xe (l_lst (a_cons (x_var 4) a_nil))) a_nil)))) ⟨t, w1, S, [q1], ok, one_lt hl1, by simp, rfl, rfl⟩))) fun _ => w_or1 (t_not (t_val (x_call (ok_leads W) (hr.mono (by omega)) (a_cons (x_var 0) (a_cons (x_var 5) (a_cons (XL.xe (l_lst (a_cons (x_var 4) a_nil))) (a_cons (XL.xe (l_lst (a_cons (x_var 4) a_nil))) a_nil)))) ⟨t, w2, [q1], [q1], ok, one_lt hl1, by simp, rfl, rfl⟩))))) (by rw [leads_of ok hp (by simp) k1, leads_of ok (S := [q1]) (by simp) (by simp) l.1]; rfl)) ?_
  refine hss_one (hs_ret (x_and (x_call (ok_leads W) (hr.mono (by omega)) (a_cons (x_var 0) (a_cons (x_var 5) (a_cons (XL.xe (l_lst (a_cons (x_var 4) a_nil))) (a_cons (XL.xe (l_lst (a_cons (x_var 6) a_nil))) a_nil)))) ⟨t, w2, [q1], [q2], ok, one_lt hl2, by simp, rfl, rfl⟩) fun _ => x_one (x_call (ok_leads W) (hr.mono (by omega)) (a_cons (x_var 0) (a_cons (x_var 5) (a_cons (XL.xe (l_lst (a_cons (x_var 6) a_nil))) (a_cons (XL.xe (l_lst (a_cons (x_var 6) a_nil))) a_nil)))) ⟨t, w2, [q2], [q2], ok, one_lt hl2, by simp, rfl, rfl⟩)) ?_)
  rw [leads_of ok (S := [q1]) (by simp) (by simp) l.2.1, leads_of ok (S := [q2]) (by simp) (by simp) l.2.2]
  rfl
def pre_power_holds (ds : List D) (x : D) : Prop := ∃ (t : Tal), t.Ok ∧ doubling t = [] ∧ ds = [t.d, pPaperD t] ∧ x = .bl true
theorem sc_power_holds : FnScope ["tally", "thing", "word", "levels", "chain", "behind", "here", "piece", "state", "level"] ["tally", "thing"] (defScope s_power_holds) := ⟨rfl, rfl, rfl, by decide +kernel, rfl, by decide +kernel, by decide +kernel⟩
theorem ok_power_holds (W : Wd K mg) : Fn P w K mg base "power_holds" 7 ["tally", "thing"] (FSp (TA K) pre_power_holds) := by
  refine mk_fn (d := d_power_holds) W 49 44 rfl rfl rfl rfl rfl sc_power_holds (fun ds x h => by obtain ⟨t, ok, de, rfl, rfl⟩ := h; rfl) (fun _ _ _ _ _ _ us hl => match us, hl with | [_, _], _ => rfl) fun f cdv A outer s0 H E Z ds x hp hr => ?_
  obtain ⟨t, ok, de, rfl, rfl⟩ := hp
  have nd := sc_power_holds.nd
  have ndb := (dbl_nil ok).mp de
  obtain ⟨f1, f2, f3, f4⟩ := pc_facts ok ndb
  have l1 := ok.sml
  have l2 := useful_len (t := t)
  have hz2 : ∀ z ∈ pChain t, z.2 < t.n := fun z hz => by
    obtain ⟨i, hi⟩ := List.mem_iff_getElem?.mp hz
    exact (f2 i z hi).2.2.2.1.lt
  have hbd : (∀ c ∈ pBehind t, c ∈ t.dg) ∧ (pBehind t).length ≤ 1000 := by
    by_cases e : topL t = 0
    · rw [f3 e]; simp
    · obtain ⟨eb, p, _, q, _, k⟩ := f4 e
      exact ⟨path_dg k, between_len ok eb⟩
  let C : D := .tup ((piecesL t (pChain t)).map pieceD)
  let δ1 : List LV := [.d t.d, .d (pPaperD t), .d (.str "power"), .d (rowsD t), .d C, .d (.str (mkS (pBehind t))), .un, .un, .un, .un]
  refine hss_seq δ1 (fun Φ' h => hs_unpack (g_tup (gs_cons 2 (gs_cons 3 (gs_cons 4 (gs_cons 5 gs_nil nd) nd) nd) nd)) (x_var 1) rfl h) ?_
  refine hss_skip (XT.eq (XW.t (w_or (t_not (t_val (x_isi (ty := "tuple") W.b_isinstance (x_var 4) (fun _ z => (by change D.tup _ = _ at z; cases z)) W.b_tuple rfl rfl))) fun _ => w_or (t_not (t_val (x_call (ok_is_ticket W) (hr.mono (by omega)) (a_cons (x_fld 0 W.cls W.na_digits (x_var 0)) (a_cons (x_var 5) a_nil)) ⟨t.dg, pBehind t, hbd.1, hbd.2, rfl, rfl⟩))) fun _ => w_or1 (t_not (t_val (x_call (ok_levels_hold W) (hr.mono (by omega)) (a_cons (x_var 0) (a_cons (x_var 3) a_nil)) ⟨t, ok, ndb, rfl, rfl⟩))))) rfl) ?_
  refine hss_skip (XT.eq (XW.t (w_or (t_neD 1 1 hr.units (XE.r (x_call (ok_doubling_states W) (hr.mono (by omega)) (a_cons (x_var 0) a_nil) ⟨t, ok, rfl, rfl⟩)) (XE.r (x_tup a_nil)) ok_stD rfl (by rw [eqv_nil, stD_empty])) fun _ => w_or1 (t_ne (x_lenT W.b_len (XE.r (x_var 4))) (x_max1 (ns := 0 :: (useful t).map (lv t)) W.b_max (XE.r (XE.eq (XL.xe (l_catL (XE.r (XL.xe (l_lst (a_cons x_int a_nil)))) (XE.r (XL.xe (l_map [("state", 8), ("level", 9)] (.tup [8, 9]) (useful t) (levD t) (fun p => .int (lv t p)) nd (i_tup (x_var 3)) (blkOk_by (by kernel_rfl)) (fun _ _ _ _ _ => g_tup (gs_cons 8 (gs_cons 9 gs_nil nd) nd)) (fun y hy => ⟨_, rfl, fun _ _ _ _ _ => x_var 9⟩) (by omega)))) (sl_ok (by show 1 + (List.map _ _).length ≤ _; rw [List.length_map]; omega)))) (by show D.lst (D.int 0 :: List.map _ _) = _; rw [List.map_cons, List.map_map]; rfl))) (by simp))))) (by
    rw [de, mx_top, List.length_map, pieces_len, f1]
    simp)) ?_
  have okC : okD 3 C = true := by
    show okDs 2 ((piecesL t (pChain t)).map pieceD) = true
    refine okDs_mem fun d hd => ?_
    obtain ⟨pc, hpc, rfl⟩ := List.mem_map.mp hd
    obtain ⟨⟨z, i⟩, hz, rfl⟩ := List.mem_map.mp hpc
    obtain ⟨a, b⟩ := f2 i z (List.mem_zipIdx_iff_getElem?.mp hz)
    exact ok_pieceD ok a b
  have hlen : ((piecesL t (pChain t)).map pieceD).length = topL t := by rw [List.length_map, pieces_len, f1]
  refine hss_guard (t_eqD 3 1 hr.units (XE.r (x_var 4)) (XE.r (x_tup a_nil)) okC rfl eqv_nil) (fun e => ?_) fun e => ?_
  · have e : topL t = 0 := by rw [← hlen, List.isEmpty_iff.mp e]; rfl
    refine hss_one (hs_ret (x_eq (x_var 5) x_str) ?_)
    rw [f3 e]
    rfl
  · have e : topL t ≠ 0 := fun z => by
      rw [z] at hlen
      rw [List.eq_nil_of_length_eq_zero hlen] at e
      cases e
    obtain ⟨eb, p, hp, q, hq, k⟩ := f4 e
    have hpa := @pieces_at t
    refine hss_seq (δ1.set 6 (.d (.lst (stD (starts t))))) (fun Φ' h => hs_set 6 nd (x_call (ok_starts_of W) (hr.mono (by omega)) (a_cons (x_var 0) a_nil) ⟨t, ok, rfl, rfl⟩) h) ?_
    refine hss_cons (fun d => ∃ a : LV, d = [.d t.d, .d (pPaperD t), .d (.str "power"), .d (rowsD t), .d C, .d (.str (mkS (pBehind t))), .d (.lst (stD (hereAt (starts t) (pChain t) (pChain t).length))), a, .un, .un])
      (hs_forT (t := .one 7) (piecesL t (pChain t)) pieceD (fun i d => ∃ a : LV, d = [.d t.d, .d (pPaperD t), .d (.str "power"), .d (rowsD t), .d C, .d (.str (mkS (pBehind t))), .d (.lst (stD (hereAt (starts t) (pChain t) i))), a, .un, .un])
        (i_tup (x_var 4)) (g_name 7 nd) ⟨_, rfl⟩ (fun i d pc hpi ⟨a, hd⟩ => ?_) (fun d ⟨a, hd⟩ => ⟨a, by rw [hd, pieces_len]⟩)) fun d ⟨a, hd⟩ => ?_
    · subst hd
      refine ⟨_, rfl, ?_⟩
      have hil : i < (pChain t).length := by rw [← pieces_len (t := t)]; exact (List.getElem?_eq_some_iff.mp hpi).1
      obtain ⟨z, hz⟩ : ∃ z, (pChain t)[i]? = some z := ⟨_, List.getElem?_eq_getElem hil⟩
      obtain ⟨hre, hri⟩ := f2 i z hz
      rw [pieces_at hz] at hpi
      injection hpi with hpi
      subst hpi
      refine hss_skip (XT.eq (t_not (t_val (x_call (ok_piece_holds W) (hr.mono (by omega)) (a_cons (x_var 0) (a_cons (x_var 7) (a_cons (x_var 6) a_nil))) ⟨t, hereAt (starts t) (pChain t) i, z, ok, hre, hri, rfl, rfl⟩))) rfl) ?_
      have hh : hereAt (starts t) (pChain t) (i + 1) = [z.2] := by
        show [((pChain t).getD i (0, 0)).2] = _
        rw [List.getD_eq_getElem?_getD, hz]; rfl
      exact hss_one (hs_set 6 nd (XL.xe (l_lst (a_cons (x_ixT (XE.r (x_var 7)) x_int rfl) a_nil))) ⟨_, by rw [hh]; rfl⟩)
    · subst hd
      have lg : (goals t).length ≤ t.n := flt_len
      refine hss_one (hs_ret (x_call (ok_leads W) (hr.mono (by omega)) (a_cons (x_var 0) (a_cons (x_var 5) (a_cons (x_var 6) (a_cons (x_call (ok_goals_of W) (hr.mono (by omega)) (a_cons (x_var 0) a_nil) ⟨t, ok, rfl, rfl⟩) a_nil)))) ⟨t, pBehind t, _, goals t, ok, goals_lt, by omega, rfl, rfl⟩) ?_)
      rw [leads_of ok hp hq k]
def pre_growth_holds (ds : List D) (x : D) : Prop := ∃ (t : Tal), t.Ok ∧ ds = [t.d, paperD t] ∧ x = .bl true
theorem ok_rowsD {t : Tal} : okD 2 (rowsD t) = true := by
  show okDs 1 ((useful t).map (levD t)) = true
  refine okDs_mem fun d hd => ?_
  obtain ⟨p, _, rfl⟩ := List.mem_map.mp hd
  rfl
theorem dPaper_eq {t : Tal} (h : t.Ok) (ne : doubling t ≠ []) : ∃ (s : Nat) (w1 w2 w3 : List Nat), dPaperD t = .tup [.str "doubles", .str (mkS w1), .int s, .str (mkS w2), .str (mkS w3)] ∧ okD 3 (dPaperD t) = true := by
  obtain ⟨s, r, es⟩ : ∃ s r, doubling t = s :: r := by
    cases q : doubling t with
    | nil => exact absurd q ne
    | cons s r => exact ⟨s, r, rfl⟩
  obtain ⟨hs, w1, w2, w3, e1, e2, e3, ⟨p, hp, k1⟩, k2, q, hq, k3⟩ := dp_facts h es
  have ed : dPaperD t = .tup [.str "doubles", .str (mkS w1), .int s, .str (mkS w2), .str (mkS w3)] := by
    unfold dPaperD
    rw [es]
    show D.tup [_, lpD (between t (starts t) [s]), _, lpD (dLoop t s), lpD (between t [s] (goals t))] = _
    rw [e1, e2, e3]
    rfl
  refine ⟨s, w1, w2, w3, ed, ?_⟩
  rw [ed]
  have a1 := lay_path h k1
  have a2 := lay_path h k2.left
  have a3 := lay_path h k3
  show okDs 2 _ = true
  refine okDs_mem fun d hd => ?_
  simp only [List.mem_cons, List.not_mem_nil, or_false] at hd
  rcases hd with rfl | rfl | rfl | rfl | rfl
  · exact lay_doubles
  · exact a1
  · rfl
  · exact a2
  · exact a3
theorem pPaper_ok {t : Tal} (h : t.Ok) (nd : Gm.NoDbl (gph t)) : okD 4 (pPaperD t) = true := by
  obtain ⟨f1, f2, f3, f4⟩ := pc_facts h nd
  show okDs 3 [.str "power", rowsD t, .tup ((piecesL t (pChain t)).map pieceD), .str (mkS (pBehind t))] = true
  refine okDs_mem fun d hd => ?_
  simp only [List.mem_cons, List.not_mem_nil, or_false] at hd
  rcases hd with rfl | rfl | rfl | rfl
  · exact lay_power
  · show okDs 2 ((useful t).map (levD t)) = true
    refine okDs_mem fun d hd => ?_
    obtain ⟨p, _, rfl⟩ := List.mem_map.mp hd
    rfl
  · show okDs 2 ((piecesL t (pChain t)).map pieceD) = true
    refine okDs_mem fun d hd => ?_
    obtain ⟨pc, hpc, rfl⟩ := List.mem_map.mp hd
    obtain ⟨⟨z, i⟩, hz, rfl⟩ := List.mem_map.mp hpc
    obtain ⟨a, b⟩ := f2 i z (List.mem_zipIdx_iff_getElem?.mp hz)
    exact ok_pieceD h a b
  · by_cases e : topL t = 0
    · rw [f3 e]; exact lay_mkS (by simp)
    · obtain ⟨eb, p, _, q, _, k⟩ := f4 e
      exact lay_path h k
theorem sc_growth_holds : FnScope ["tally", "thing"] ["tally", "thing"] (defScope s_growth_holds) := ⟨rfl, rfl, rfl, by decide +kernel, rfl, by decide +kernel, by decide +kernel⟩
theorem ok_growth_holds (W : Wd K mg) : Fn P w K mg base "growth_holds" 8 ["tally", "thing"] (FSp (TA K) pre_growth_holds) := by
  refine mk_fn (d := d_growth_holds) W 50 45 rfl rfl rfl rfl rfl sc_growth_holds (fun ds x h => by obtain ⟨t, ok, rfl, rfl⟩ := h; rfl) (fun _ _ _ _ _ _ us hl => match us, hl with | [_, _], _ => rfl) fun f cdv A outer s0 H E Z ds x hp hr => ?_
  obtain ⟨t, ok, rfl, rfl⟩ := hp
  have nd := sc_growth_holds.nd
  by_cases de : doubling t = []
  · have ep : paperD t = pPaperD t := by unfold paperD; rw [if_pos de]
    rw [ep]
    have okp := pPaper_ok ok ((dbl_nil ok).mp de)
    refine hss_skip (XT.eq (XW.t (w_or (t_not (t_val (x_isi (ty := "tuple") W.b_isinstance (x_var 1) (fun _ z => (by cases z)) W.b_tuple rfl rfl))) fun _ => w_or (t_eqD 4 1 hr.units (XE.r (x_var 1)) (XE.r (x_tup a_nil)) okp rfl eqv_nil) fun _ => w_or1 (t_not (t_val (x_isi (ty := "str") W.b_isinstance (x_ixT (XE.r (x_var 1)) x_int rfl) (fun _ z => (by cases z)) W.b_str rfl rfl))))) rfl) ?_
    refine hss_skip (XT.eq (t_eq (x_ixT (XE.r (x_var 1)) x_int rfl) (x_gstr rfl W.s_DOUBLES)) (by decide)) ?_
    exact hss_one (hs_ret (x_and (p := true) (q := true) (XE.eq (x_eq (x_ixT (XE.r (x_var 1)) x_int rfl) (x_gstr rfl W.s_POWER)) (congrArg D.bl (by decide))) fun _ => x_and (p := true) (q := true) (XE.eq (x_eq (x_lenT W.b_len (XE.r (x_var 1))) (x_gint rfl W.i_POWER_PARTS)) (congrArg D.bl (by rw [vint_eq]; simp))) fun _ => x_one (x_call (ok_power_holds W) (hr.mono (by omega)) (a_cons (x_var 0) (a_cons (x_var 1) a_nil)) ⟨t, ok, de, rfl, rfl⟩)) rfl)
  · have ep : paperD t = dPaperD t := by unfold paperD; rw [if_neg de]
    rw [ep]
    obtain ⟨s, w1, w2, w3, ed, okp⟩ := dPaper_eq ok de
    have cc : HSs (cxF P w K mg base ["tally", "thing"] d_growth_holds.qual d_growth_holds.scope f cdv A outer s0 H E) ⟨TA K, P, w, H, Z⟩ d_growth_holds.body (begun ["tally", "thing"] [t.d, .tup [.str "doubles", .str (mkS w1), .int s, .str (mkS w2), .str (mkS w3)]]) (ret (.bl true)) := by
      rw [ed] at okp
      refine hss_skip (XT.eq (XW.t (w_or (t_not (t_val (x_isi (ty := "tuple") W.b_isinstance (x_var 1) (fun _ z => (by cases z)) W.b_tuple rfl rfl))) fun _ => w_or (t_eqD 3 1 hr.units (XE.r (x_var 1)) (XE.r (x_tup a_nil)) okp rfl eqv_nil) fun _ => w_or1 (t_not (t_val (x_isi (ty := "str") W.b_isinstance (x_ixT (XE.r (x_var 1)) x_int rfl) (fun _ z => (by cases z)) W.b_str rfl rfl))))) rfl) ?_
      refine hss_guard (XT.eq (t_eq (x_ixT (XE.r (x_var 1)) x_int rfl) (x_gstr rfl W.s_DOUBLES)) (show _ = true by decide)) (fun _ => ?_) fun e => by cases e
      exact hss_one (hs_ret (x_and (p := true) (q := true) (XE.eq (x_eq (x_lenT W.b_len (XE.r (x_var 1))) (x_gint rfl W.i_DOUBLES_PARTS)) (congrArg D.bl (by rw [vint_eq]; simp))) fun _ => x_one (x_call (ok_doubles_hold W) (hr.mono (by omega)) (a_cons (x_var 0) (a_cons (x_var 1) a_nil)) ⟨t, ok, de, by rw [ed], rfl⟩)) rfl)
    rw [ed]
    exact cc
def pre_grows_more (ds : List D) (x : D) : Prop := ∃ (a b : Tal), a.Ok ∧ b.Ok ∧ (0 ≤ kind b → 0 ≤ kind a ∧ kind a ≤ kind b) ∧ ds = [a.d, b.d] ∧ x = .bl false
theorem degD_eq {t : Tal} : degD t = if kind t < 0 then .non else .int (kind t) := by
  unfold degD kind
  by_cases e : doubling t = []
  · rw [if_pos e, if_pos e, if_neg (by omega)]
  · rw [if_neg e, if_neg e, if_pos (by decide)]
theorem sc_grows_more : FnScope ["one", "other", "near", "far"] ["one", "other"] (defScope s_grows_more) := ⟨rfl, rfl, rfl, by decide +kernel, rfl, by decide +kernel, by decide +kernel⟩
theorem ok_grows_more (W : Wd K mg) : Fn P w K mg base "grows_more" 7 ["one", "other"] (FSp (TA K) pre_grows_more) := by
  refine mk_fn (d := d_grows_more) W 51 46 rfl rfl rfl rfl rfl sc_grows_more (fun ds x h => by obtain ⟨a, b, oka, okb, hk, rfl, rfl⟩ := h; rfl) (fun _ _ _ _ _ _ us hl => match us, hl with | [_, _], _ => rfl) fun f cdv A outer s0 H E Z ds x hp hr => ?_
  obtain ⟨a, b, oka, okb, hk, rfl, rfl⟩ := hp
  have nd := sc_grows_more.nd
  refine hss_seq [.d a.d, .d b.d, .d (degD a), .d (degD b)] (fun Φ' h => hs_par 2 3 nd (.d (x_call (ok_degree W) (hr.mono (by omega)) (a_cons (x_var 0) a_nil) ⟨a, oka, rfl, rfl⟩)) (.d (x_call (ok_degree W) (hr.mono (by omega)) (a_cons (x_var 1) a_nil) ⟨b, okb, rfl, rfl⟩)) h) ?_
  rw [degD_eq, degD_eq]
  by_cases e : kind b < 0
  · rw [if_pos e]
    exact hss_guard (t_isN (x_var 3)) (fun _ => hss_one (hs_ret x_bl rfl)) fun e => by cases e
  · obtain ⟨h1, h2⟩ := hk (by omega)
    rw [if_neg e, if_neg (show ¬ kind a < 0 by omega)]
    refine hss_skip (XT.eq (t_isN (x_var 3)) rfl) ?_
    refine hss_one (hs_ret (x_or (x_isN (x_var 2)) fun _ => x_one (x_gt (x_var 2) (x_var 3))) ?_)
    show D.bl (false || decide (kind b < kind a)) = D.bl false
    rw [decide_eq_false (by omega)]
    rfl
end
end Tly
end
section
set_option Elab.async false
set_option linter.all false
set_option maxRecDepth 100000
set_option maxHeartbeats 2000000
namespace Tly
open PySem PySem.Spec PyProof.Rows L2 Dl
theorem dot_zip : ∀ {r s : Row}, dot r s = ((r.zip s).map fun z => z.1 * z.2).sum
  | [], _ => by simp [dot]
  | _ :: _, [] => by simp [dot]
  | x :: r, y :: s => by
    have i := dot_zip (r := r) (s := s)
    unfold dot at i ⊢
    rw [List.zipWith_cons_cons, List.zip_cons_cons, List.map_cons, List.sum_cons, List.sum_cons, i]
theorem zip_rows {r s : Row} : zipD (r.map D.int) (s.map D.int) = (r.zip s).map fun z => D.tup [.int z.1, .int z.2] := by
  unfold zipD
  rw [List.zip_map, List.map_map]
  rfl
/-- a table as the text's tables are -/
structure TabOk (n : Nat) (m : Tab) : Prop where
  sq : SqT' n m
  nn : NN m
  bd : ∀ r ∈ m, ∀ x ∈ r, x ≤ 1000000
theorem Tal.Ok.tab {t : Tal} (h : t.Ok) {m : Tab} (hm : m ∈ t.tables) : TabOk t.n m := ⟨h.tabs m hm, h.nn m hm, fun r hr x hx => by have := h.bd m hm r hr x hx; omega⟩
section
variable {P : Program} {w : World} {K : PySem.W.Frag} {mg : Str → Option Value} {base : Heap}
def pre_product_of (ds : List D) (x : D) : Prop := ∃ (r s : Row), r.length = s.length ∧ r.length ≤ 100 ∧ (∀ x ∈ s, 0 ≤ x ∧ x ≤ 1000000) ∧ ds = [rowD r, rowD s] ∧ x = .int (dot r s)
theorem sc_product_of : FnScope ["row", "other", "number", "mate"] ["row", "other"] (defScope s_product_of) := ⟨rfl, rfl, rfl, by decide +kernel, rfl, by decide +kernel, by decide +kernel⟩
theorem ok_product_of (W : Wd K mg) : Fn P w K mg base "product_of" 1 ["row", "other"] (FSp (TA K) pre_product_of) := by
  refine mk_fn (d := d_product_of) W 0 0 rfl rfl rfl rfl rfl sc_product_of (fun ds x h => by obtain ⟨r, s, hl, h1, hs, rfl, rfl⟩ := h; rfl) (fun _ _ _ _ _ _ us hl => match us, hl with | [_, _], _ => rfl) fun f cdv A outer s0 H E Z ds x hp hr => ?_
  obtain ⟨r, s, hl, h1, hs, rfl, rfl⟩ := hp
  have nd := sc_product_of.nd
  refine hss_one (hs_ret (XE.eq (x_sum (ns := (r.zip s).map fun z => z.1 * z.2) W.b_sum (XE.r (XE.eq (XL.xe (l_map [("number", 2), ("mate", 3)] (.tup [2, 3]) (r.zip s) (fun z => D.tup [.int z.1, .int z.2]) (fun z => .int (z.1 * z.2)) nd (XI.eq (i_zipTT W.b_zip (x_var 0) (x_var 1) (by rw [List.length_map, List.length_map, hl])) zip_rows) (blkOk_by (by kernel_rfl)) (fun _ _ _ _ _ => g_tup (gs_cons 2 (gs_cons 3 gs_nil nd) nd)) (fun z hz => ⟨_, rfl, fun _ _ _ _ _ => x_mul (x_var 2) (x_var 3) (cmul_of (hs z.2 (List.of_mem_zip hz).2).1 (hs z.2 (List.of_mem_zip hz).2).2)⟩) (by rw [List.length_zip]; omega))) (by rw [List.map_map]; rfl)))) (by rw [← dot_zip])) rfl)
def pre_columns_of (ds : List D) (x : D) : Prop := ∃ (n : Nat) (m : Tab), SqT' n m ∧ n ≤ 100 ∧ ds = [tabD m] ∧ x = .lst ((colsOf m).map rowD)
theorem row_atM {n : Nat} {m : Tab} (sq : SqT' n m) {r : Row} (hr : r ∈ m) {j : Nat} (hj : j < n) : atI (r.map D.int) (j : Int) = some (.int (r.getD j 0)) := row_at (by rw [sq.2 r hr]; exact hj)
theorem sc_columns_of : FnScope ["table", "place", "row"] ["table"] (defScope s_columns_of) := ⟨rfl, rfl, rfl, by decide +kernel, rfl, by decide +kernel, by decide +kernel⟩
theorem ok_columns_of (W : Wd K mg) : Fn P w K mg base "columns_of" 1 ["table"] (FSp (TA K) pre_columns_of) := by
  refine mk_fn (d := d_columns_of) W 1 1 rfl rfl rfl rfl rfl sc_columns_of (fun ds x h => by obtain ⟨n, m, sq, hn, rfl, rfl⟩ := h; rfl) (fun _ _ _ _ _ _ us hl => match us, hl with | [_], _ => rfl) fun f cdv A outer s0 H E Z ds x hp hr => ?_
  obtain ⟨n, m, sq, hn, rfl, rfl⟩ := hp
  have nd := sc_columns_of.nd
  have l1 := sq.1
  refine hss_one (hs_ret (XE.eq (XL.xe (l_map [("place", 1)] (.one 1) (List.range m.length) (fun (k : Nat) => .int k) (fun j => rowD (m.map fun r => r.getD j 0)) nd (i_rangeN W.b_range (XE.eq (x_lenT W.b_len (XE.r (x_var 0))) (congrArg D.int lenI)) (by omega)) (blkOk_by (by kernel_rfl)) (fun _ _ _ _ _ => g_name 1 nd) (fun j hj => ⟨_, rfl, fun _ _ _ _ _ => XE.eq (x_tupL W.b_tuple (XE.r (XL.xe (l_map [("row", 2)] (.one 2) m rowD (fun r => .int (r.getD j 0)) nd (i_tup (x_var 0)) (blkOk_by (by kernel_rfl)) (fun _ _ _ _ _ => g_name 2 nd) (fun r hr' => ⟨_, rfl, fun _ _ _ _ _ => x_ixT (XE.r (x_var 2)) (x_var 1) (row_atM sq hr' (by rw [← l1]; exact List.mem_range.mp hj))⟩) (by omega))))) (by unfold rowD; rw [List.map_map]; rfl)⟩) (by rw [List.length_range]; omega))) (by unfold colsOf; rw [List.map_map]; rfl)) rfl)
theorem cols_ok {n : Nat} {m : Tab} (h : TabOk n m) : ∀ c ∈ colsOf m, c.length = n ∧ ∀ x ∈ c, 0 ≤ x ∧ x ≤ 1000000 := by
  intro c hc
  refine ⟨(cols_sq h.sq).2 c hc, fun x hx => ⟨cols_nn h.nn c hc x hx, ?_⟩⟩
  obtain ⟨j, _, rfl⟩ := List.mem_map.mp hc
  obtain ⟨r', hr', rfl⟩ := List.mem_map.mp hx
  rw [List.getD_eq_getElem?_getD]
  cases e : r'[j]? with
  | none => show (0 : Int) ≤ 1000000; decide
  | some y => exact h.bd r' hr' y (List.mem_of_getElem? e)
def pre_led_on (ds : List D) (x : D) : Prop := ∃ (n : Nat) (r : Row) (m : Tab), TabOk n m ∧ n ≤ 100 ∧ r.length = n ∧ ds = [rowD r, tabD m] ∧ x = rowD (ledOn r m)
theorem sc_led_on : FnScope ["row", "table", "column"] ["row", "table"] (defScope s_led_on) := ⟨rfl, rfl, rfl, by decide +kernel, rfl, by decide +kernel, by decide +kernel⟩
theorem ok_led_on (W : Wd K mg) : Fn P w K mg base "led_on" 2 ["row", "table"] (FSp (TA K) pre_led_on) := by
  refine mk_fn (d := d_led_on) W 2 2 rfl rfl rfl rfl rfl sc_led_on (fun ds x h => by obtain ⟨n, r, m, tk, hn, hl, rfl, rfl⟩ := h; rfl) (fun _ _ _ _ _ _ us hl => match us, hl with | [_, _], _ => rfl) fun f cdv A outer s0 H E Z ds x hp hr => ?_
  obtain ⟨n, r, m, tk, hn, hl, rfl, rfl⟩ := hp
  have nd := sc_led_on.nd
  have lc := (cols_sq tk.sq).1
  refine hss_one (hs_ret (XE.eq (x_tupL W.b_tuple (XE.r (XL.xe (l_map [("column", 2)] (.one 2) (colsOf m) rowD (fun c => .int (dot r c)) nd (i_list (x_call (ok_columns_of W) (hr.mono (by omega)) (a_cons (x_var 1) a_nil) ⟨n, m, tk.sq, hn, rfl, rfl⟩)) (blkOk_by (by kernel_rfl)) (fun _ _ _ _ _ => g_name 2 nd) (fun c hc => ⟨_, rfl, fun _ _ _ _ _ => x_call (ok_product_of W) (hr.mono (by omega)) (a_cons (x_var 0) (a_cons (x_var 2) a_nil)) ⟨r, c, by rw [(cols_ok tk c hc).1, hl], by omega, (cols_ok tk c hc).2, rfl, rfl⟩⟩) (by omega))))) (by unfold ledOn rowD; rw [List.map_map]; rfl)) rfl)
def pre_table_product (ds : List D) (x : D) : Prop := ∃ (n : Nat) (a m : Tab), SqT' n a ∧ TabOk n m ∧ n ≤ 100 ∧ ds = [tabD a, tabD m] ∧ x = tabD (tabProd a m)
theorem sc_table_product : FnScope ["table", "other", "columns", "row", "column"] ["table", "other"] (defScope s_table_product) := ⟨rfl, rfl, rfl, by decide +kernel, rfl, by decide +kernel, by decide +kernel⟩
theorem ok_table_product (W : Wd K mg) : Fn P w K mg base "table_product" 2 ["table", "other"] (FSp (TA K) pre_table_product) := by
  refine mk_fn (d := d_table_product) W 3 3 rfl rfl rfl rfl rfl sc_table_product (fun ds x h => by obtain ⟨n, a, m, sa, tk, hn, rfl, rfl⟩ := h; rfl) (fun _ _ _ _ _ _ us hl => match us, hl with | [_, _], _ => rfl) fun f cdv A outer s0 H E Z ds x hp hr => ?_
  obtain ⟨n, a, m, sa, tk, hn, rfl, rfl⟩ := hp
  have nd := sc_table_product.nd
  have lc := (cols_sq tk.sq).1
  have la := sa.1
  refine hss_seq [.d (tabD a), .d (tabD m), .d (.lst ((colsOf m).map rowD)), .un, .un] (fun Φ' h => hs_set 2 nd (x_call (ok_columns_of W) (hr.mono (by omega)) (a_cons (x_var 1) a_nil) ⟨n, m, tk.sq, hn, rfl, rfl⟩) h) ?_
  refine hss_one (hs_ret (XE.eq (x_tupL W.b_tuple (XE.r (XL.xe (l_map [("row", 3)] (.one 3) a rowD (fun r => rowD ((colsOf m).map (dot r))) nd (i_tup (x_var 0)) (blkOk_by (by kernel_rfl)) (fun _ _ _ _ _ => g_name 3 nd) (fun r hr' => ⟨_, rfl, fun _ _ _ _ _ => XE.eq (x_tupL W.b_tuple (XE.r (XL.xe (l_map [("column", 4)] (.one 4) (colsOf m) rowD (fun c => .int (dot r c)) nd (i_list (x_var 2)) (blkOk_by (by kernel_rfl)) (fun _ _ _ _ _ => g_name 4 nd) (fun c hc => ⟨_, rfl, fun _ _ _ _ _ => x_call (ok_product_of W) (hr.mono (by omega)) (a_cons (x_var 3) (a_cons (x_var 4) a_nil)) ⟨r, c, by rw [(cols_ok tk c hc).1, sa.2 r hr'], by rw [sa.2 r hr']; exact hn, (cols_ok tk c hc).2, rfl, rfl⟩⟩) (by omega))))) (by unfold rowD; rw [List.map_map]; rfl)⟩) (by omega))))) (by unfold tabProd tabD; rw [List.map_map]; rfl)) rfl)
def pre_still_table (ds : List D) (x : D) : Prop := ∃ (n : Nat), n ≤ 100 ∧ ds = [.int n] ∧ x = tabD (still n)
theorem sc_still_table : FnScope ["size", "place", "state"] ["size"] (defScope s_still_table) := ⟨rfl, rfl, rfl, by decide +kernel, rfl, by decide +kernel, by decide +kernel⟩
theorem ok_still_table (W : Wd K mg) : Fn P w K mg base "still_table" 1 ["size"] (FSp (TA K) pre_still_table) := by
  refine mk_fn (d := d_still_table) W 4 4 rfl rfl rfl rfl rfl sc_still_table (fun ds x h => by obtain ⟨n, hn, rfl, rfl⟩ := h; rfl) (fun _ _ _ _ _ _ us hl => match us, hl with | [_], _ => rfl) fun f cdv A outer s0 H E Z ds x hp hr => ?_
  obtain ⟨n, hn, rfl, rfl⟩ := hp
  have nd := sc_still_table.nd
  refine hss_one (hs_ret (XE.eq (x_tupL W.b_tuple (XE.r (XL.xe (l_map [("state", 2)] (.one 2) (List.range n) (fun (k : Nat) => .int k) (fun i => rowD ((List.range n).map fun j => if j = i then 1 else 0)) nd (i_rangeN W.b_range (x_var 0) (by omega)) (blkOk_by (by kernel_rfl)) (fun _ _ _ _ _ => g_name 2 nd) (fun i hi => ⟨_, rfl, fun _ _ _ _ _ => XE.eq (x_tupL W.b_tuple (XE.r (XL.xe (l_map [("place", 1)] (.one 1) (List.range n) (fun (k : Nat) => .int k) (fun j => .int (if j = i then 1 else 0)) nd (i_rangeN W.b_range (x_var 0) (by omega)) (blkOk_by (by kernel_rfl)) (fun _ _ _ _ _ => g_name 1 nd) (fun j hj => ⟨_, rfl, fun _ _ _ _ _ => XE.eq (x_intB W.b_int (x_eq (x_var 1) (x_var 2))) (by rw [vnat_eq]; by_cases e : j = i <;> simp [e])⟩) (by rw [List.length_range]; omega))))) (by unfold rowD; rw [List.map_map]; rfl)⟩) (by rw [List.length_range]; omega))))) (by unfold still tabD; rw [List.map_map]; rfl)) rfl)
def pre_turned_table (ds : List D) (x : D) : Prop := ∃ (n : Nat) (m : Tab), SqT' n m ∧ n ≤ 100 ∧ ds = [tabD m] ∧ x = tabD (colsOf m)
theorem sc_turned_table : FnScope ["table"] ["table"] (defScope s_turned_table) := ⟨rfl, rfl, rfl, by decide +kernel, rfl, by decide +kernel, by decide +kernel⟩
theorem ok_turned_table (W : Wd K mg) : Fn P w K mg base "turned_table" 2 ["table"] (FSp (TA K) pre_turned_table) := by
  refine mk_fn (d := d_turned_table) W 5 5 rfl rfl rfl rfl rfl sc_turned_table (fun ds x h => by obtain ⟨n, m, sq, hn, rfl, rfl⟩ := h; rfl) (fun _ _ _ _ _ _ us hl => match us, hl with | [_], _ => rfl) fun f cdv A outer s0 H E Z ds x hp hr => ?_
  obtain ⟨n, m, sq, hn, rfl, rfl⟩ := hp
  have nd := sc_turned_table.nd
  exact hss_one (hs_ret (x_tupL W.b_tuple (XE.r (x_call (ok_columns_of W) (hr.mono (by omega)) (a_cons (x_var 0) a_nil) ⟨n, m, sq, hn, rfl, rfl⟩))) rfl)
def pre_times_column (ds : List D) (x : D) : Prop := ∃ (n : Nat) (m : Tab) (c : Row), SqT' n m ∧ n ≤ 100 ∧ c.length = n ∧ (∀ x ∈ c, 0 ≤ x ∧ x ≤ 1000000) ∧ ds = [tabD m, rowD c] ∧ x = rowD (timesCol m c)
theorem sc_times_column : FnScope ["table", "column", "row"] ["table", "column"] (defScope s_times_column) := ⟨rfl, rfl, rfl, by decide +kernel, rfl, by decide +kernel, by decide +kernel⟩
theorem ok_times_column (W : Wd K mg) : Fn P w K mg base "times_column" 2 ["table", "column"] (FSp (TA K) pre_times_column) := by
  refine mk_fn (d := d_times_column) W 6 6 rfl rfl rfl rfl rfl sc_times_column (fun ds x h => by obtain ⟨n, m, c, sq, hn, hl, hc, rfl, rfl⟩ := h; rfl) (fun _ _ _ _ _ _ us hl => match us, hl with | [_, _], _ => rfl) fun f cdv A outer s0 H E Z ds x hp hr => ?_
  obtain ⟨n, m, c, sq, hn, hl, hc, rfl, rfl⟩ := hp
  have nd := sc_times_column.nd
  have la := sq.1
  refine hss_one (hs_ret (XE.eq (x_tupL W.b_tuple (XE.r (XL.xe (l_map [("row", 2)] (.one 2) m rowD (fun r => .int (dot r c)) nd (i_tup (x_var 0)) (blkOk_by (by kernel_rfl)) (fun _ _ _ _ _ => g_name 2 nd) (fun r hr' => ⟨_, rfl, fun _ _ _ _ _ => x_call (ok_product_of W) (hr.mono (by omega)) (a_cons (x_var 2) (a_cons (x_var 1) a_nil)) ⟨r, c, by rw [sq.2 r hr', hl], by rw [sq.2 r hr']; exact hn, hc, rfl, rfl⟩⟩) (by omega))))) (by unfold timesCol rowD; rw [List.map_map]; rfl)) rfl)
/-! ### what a tally must be made of -/
def pre_are_integers (ds : List D) (x : D) : Prop := ∃ (r : Row), r.length ≤ 100 ∧ ds = [rowD r, .int r.length] ∧ x = .bl true
theorem sc_are_integers : FnScope ["thing", "many", "part"] ["thing", "many"] (defScope s_are_integers) := ⟨rfl, rfl, rfl, by decide +kernel, rfl, by decide +kernel, by decide +kernel⟩
theorem ok_are_integers (W : Wd K mg) : Fn P w K mg base "are_integers" 2 ["thing", "many"] (FSp (TA K) pre_are_integers) := by
  refine mk_fn (d := d_are_integers) W 8 8 rfl rfl rfl rfl rfl sc_are_integers (fun ds x h => by obtain ⟨r, hl, rfl, rfl⟩ := h; rfl) (fun _ _ _ _ _ _ us hl => match us, hl with | [_, _], _ => rfl) fun f cdv A outer s0 H E Z ds x hp hr => ?_
  obtain ⟨r, hl, rfl, rfl⟩ := hp
  have nd := sc_are_integers.nd
  exact hss_one (hs_ret (x_and (p := true) (q := true) (x_isi (ty := "tuple") W.b_isinstance (x_var 0) (fun _ z => (by change D.tup _ = _ at z; cases z)) W.b_tuple rfl rfl) fun _ => x_and (p := true) (q := true) (XE.eq (x_eq (x_lenT W.b_len (XE.r (x_var 0))) (x_var 1)) (congrArg D.bl (by rw [List.length_map]; simp))) fun _ => x_one (XE.eq (x_allM r (fun _ => true) W.b_all
      (XE.r (XL.xe (l_map [("part", 2)] (.one 2) r (fun i => .int i) _ nd (i_tup (x_var 0)) (blkOk_by (by kernel_rfl)) (fun _ _ _ _ _ => g_name 2 nd) (fun i hi => ⟨_, rfl, fun _ _ _ _ _ => x_call (ok_is_integer_tickets W) (hr.mono (by omega)) (a_cons (x_var 2) a_nil) ⟨_, rfl, rfl⟩⟩) (by omega))))) (congrArg D.bl (by simp)))) rfl)
def pre_is_table (ds : List D) (x : D) : Prop := ∃ (n : Nat) (m : Tab), SqT' n m ∧ n ≤ 100 ∧ ds = [.int n, tabD m] ∧ x = .bl true
theorem sc_is_table : FnScope ["size", "thing", "row"] ["size", "thing"] (defScope s_is_table) := ⟨rfl, rfl, rfl, by decide +kernel, rfl, by decide +kernel, by decide +kernel⟩
theorem ok_is_table (W : Wd K mg) : Fn P w K mg base "is_table" 3 ["size", "thing"] (FSp (TA K) pre_is_table) := by
  refine mk_fn (d := d_is_table) W 11 11 rfl rfl rfl rfl rfl sc_is_table (fun ds x h => by obtain ⟨n, m, sq, hn, rfl, rfl⟩ := h; rfl) (fun _ _ _ _ _ _ us hl => match us, hl with | [_, _], _ => rfl) fun f cdv A outer s0 H E Z ds x hp hr => ?_
  obtain ⟨n, m, sq, hn, rfl, rfl⟩ := hp
  have nd := sc_is_table.nd
  have l1 := sq.1
  exact hss_one (hs_ret (x_and (p := true) (q := true) (x_isi (ty := "tuple") W.b_isinstance (x_var 1) (fun _ z => (by change D.tup _ = _ at z; cases z)) W.b_tuple rfl rfl) fun _ => x_and (p := true) (q := true) (XE.eq (x_eq (x_lenT W.b_len (XE.r (x_var 1))) (x_var 0)) (congrArg D.bl (by rw [List.length_map, l1]; simp))) fun _ => x_one (XE.eq (x_allM m (fun _ => true) W.b_all
      (XE.r (XL.xe (l_map [("row", 2)] (.one 2) m rowD _ nd (i_tup (x_var 1)) (blkOk_by (by kernel_rfl)) (fun _ _ _ _ _ => g_name 2 nd) (fun r hr' => ⟨_, rfl, fun _ _ _ _ _ => x_call (ok_are_integers W) (hr.mono (by omega)) (a_cons (x_var 2) (a_cons (x_var 0) a_nil)) ⟨r, by rw [sq.2 r hr']; exact hn, by rw [sq.2 r hr'], rfl⟩⟩) (by omega))))) (congrArg D.bl (by simp)))) rfl)
def pre_are_tables (ds : List D) (x : D) : Prop := ∃ (n : Nat) (dg : List Nat) (ms : List Tab), (∀ m ∈ ms, SqT' n m) ∧ n ≤ 100 ∧ ms.length = dg.length ∧ dg.length ≤ 10 ∧ ds = [.str (mkS dg), .int n, .tup (ms.map tabD)] ∧ x = .bl true
theorem sc_are_tables : FnScope ["digits", "size", "thing", "table"] ["digits", "size", "thing"] (defScope s_are_tables) := ⟨rfl, rfl, rfl, by decide +kernel, rfl, by decide +kernel, by decide +kernel⟩
theorem ok_are_tables (W : Wd K mg) : Fn P w K mg base "are_tables" 4 ["digits", "size", "thing"] (FSp (TA K) pre_are_tables) := by
  refine mk_fn (d := d_are_tables) W 12 12 rfl rfl rfl rfl rfl sc_are_tables (fun ds x h => by obtain ⟨n, dg, ms, sq, hn, hl, hd, rfl, rfl⟩ := h; rfl) (fun _ _ _ _ _ _ us hl => match us, hl with | [_, _, _], _ => rfl) fun f cdv A outer s0 H E Z ds x hp hr => ?_
  obtain ⟨n, dg, ms, sq, hn, hl, hd, rfl, rfl⟩ := hp
  have nd := sc_are_tables.nd
  exact hss_one (hs_ret (x_and (p := true) (q := true) (x_isi (ty := "tuple") W.b_isinstance (x_var 2) (fun _ z => (by change D.tup _ = _ at z; cases z)) W.b_tuple rfl rfl) fun _ => x_and (p := true) (q := true) (XE.eq (x_eq (x_lenT W.b_len (XE.r (x_var 2))) (x_lenS W.b_len (x_var 0) (sl_ok (by rw [mkS_len]; omega)))) (congrArg D.bl (by rw [List.length_map, mkS_len, hl]; simp))) fun _ => x_one (XE.eq (x_allM ms (fun _ => true) W.b_all
      (XE.r (XL.xe (l_map [("table", 3)] (.one 3) ms tabD _ nd (i_tup (x_var 2)) (blkOk_by (by kernel_rfl)) (fun _ _ _ _ _ => g_name 3 nd) (fun m hm => ⟨_, rfl, fun _ _ _ _ _ => x_call (ok_is_table W) (hr.mono (by omega)) (a_cons (x_var 1) (a_cons (x_var 3) a_nil)) ⟨n, m, sq m hm, hn, rfl, rfl⟩⟩) (by omega))))) (congrArg D.bl (by simp)))) rfl)
def DgOk (dg : List Nat) : Prop := dg ∈ [[48, 49], [48], [55], [48, 49, 50]]
theorem DgOk.all {dg : List Nat} (h : DgOk dg) : dg ≠ [] ∧ dg.length ≤ 3 ∧ (∀ c ∈ dg, 48 ≤ c ∧ c ≤ 57) ∧ ∀ i : Nat, i + 1 < dg.length → ∃ a b, dg[i]? = some a ∧ dg[i + 1]? = some b ∧ a < b := by
  unfold DgOk at h
  simp only [List.mem_cons, List.not_mem_nil, or_false] at h
  rcases h with rfl | rfl | rfl | rfl
  · exact ⟨by simp, by simp, by simp, fun i hi => by
      have : i = 0 := by simp at hi; omega
      subst this
      exact ⟨48, 49, rfl, rfl, by decide⟩⟩
  · exact ⟨by simp, by simp, by simp, fun i hi => by simp at hi⟩
  · exact ⟨by simp, by simp, by simp, fun i hi => by simp at hi⟩
  · exact ⟨by simp, by simp, by simp, fun i hi => by
      have : i = 0 ∨ i = 1 := by simp at hi; omega
      rcases this with rfl | rfl
      · exact ⟨48, 49, rfl, rfl, by decide⟩
      · exact ⟨49, 50, rfl, rfl, by decide⟩⟩
def pre_are_digits (ds : List D) (x : D) : Prop := ∃ (dg : List Nat), DgOk dg ∧ ds = [.str (mkS dg)] ∧ x = .bl true
theorem figs : ∀ c, 48 ≤ c → c ≤ 57 → c ∈ ("0123456789" : Str).cps.toList := by
  have e : ("0123456789" : Str).cps.toList = [48, 49, 50, 51, 52, 53, 54, 55, 56, 57] := by decide +kernel
  intro c h1 h2
  rw [e]
  simp only [List.mem_cons, List.not_mem_nil, or_false]
  omega
theorem mkS_at {u : List Nat} {i c : Nat} (h : u[i]? = some c) : atI (mkS u).cps.toList (i : Int) = some c := by rw [mkS_list]; exact atI_nat h
theorem sc_are_digits : FnScope ["thing", "sign", "at"] ["thing"] (defScope s_are_digits) := ⟨rfl, rfl, rfl, by decide +kernel, rfl, by decide +kernel, by decide +kernel⟩
theorem ok_are_digits (W : Wd K mg) : Fn P w K mg base "are_digits" 1 ["thing"] (FSp (TA K) pre_are_digits) := by
  refine mk_fn (d := d_are_digits) W 9 9 rfl rfl rfl rfl rfl sc_are_digits (fun ds x h => by obtain ⟨dg, hd, rfl, rfl⟩ := h; rfl) (fun _ _ _ _ _ _ us hl => match us, hl with | [_], _ => rfl) fun f cdv A outer s0 H E Z ds x hp hr => ?_
  obtain ⟨dg, hd, rfl, rfl⟩ := hp
  have nd := sc_are_digits.nd
  obtain ⟨n1, n2, n3, n4⟩ := hd.all
  have hz : (mkS dg).length ≤ sizeLine := sl_ok (by rw [mkS_len]; omega)
  have hne : 1 ≤ dg.length := by cases dg with | nil => exact absurd rfl n1 | cons a l => simp
  refine hss_skip (XT.eq (XW.t (w_or (t_not (t_val (x_isi (ty := "str") W.b_isinstance (x_var 0) (fun _ z => (by cases z)) W.b_str rfl rfl))) fun _ => w_or1 (t_eq (x_var 0) x_str))) (by rw [vmk_ne n1]; rfl)) ?_
  have ec : (((dg.length : Nat) : Int) - 1) = ((dg.length - 1 : Nat) : Int) := by omega
  refine hss_one (hs_ret (x_and (p := true) (q := true) (XE.eq (x_allM dg (fun c => decide (c ∈ ("0123456789" : Str).cps.toList)) W.b_all
      (XE.r (XL.xe (l_map [("sign", 1)] (.one 1) dg (fun c => D.str (sg c)) _ nd (XI.eq (i_str (x_var 0)) signs_mkS) (blkOk_by (by kernel_rfl)) (fun _ _ _ _ _ => g_name 1 nd) (fun c hc => ⟨_, rfl, fun _ _ _ _ _ => x_inS (x_var 1) (x_gstr rfl W.s_FIGURES)⟩) (by omega))))) (congrArg D.bl ?_)) fun _ => x_one (XE.eq (x_allM (List.range (dg.length - 1)) (fun _ => true) W.b_all
      (XE.r (XL.xe (l_map [("at", 2)] (.one 2) (List.range (dg.length - 1)) (fun (k : Nat) => .int k) _ nd (i_rangeN W.b_range (XE.eq (x_sub (x_lenS W.b_len (x_var 0) hz) x_int) (congrArg D.int (by rw [mkS_len]; exact ec))) (by omega)) (blkOk_by (by kernel_rfl)) (fun _ _ _ _ _ => g_name 2 nd) (fun i hi => by
        obtain ⟨a, b, e1, e2, lt⟩ := n4 i (by have := List.mem_range.mp hi; omega)
        have e2' : atI (mkS dg).cps.toList (((i : Nat) : Int) + 1) = some b := by have := mkS_at e2; rw [Int.natCast_add] at this; exact this
        exact ⟨_, rfl, fun _ _ _ _ _ => XE.eq (x_ltS (x_ixS (x_var 0) (x_var 2) (mkS_at e1) hz) (x_ixS (x_var 0) (x_add (x_var 2) x_int) e2' hz)) (congrArg D.bl (decide_eq_true (by
          show [a] < [b]
          exact List.Lex.rel lt)))⟩) (by rw [List.length_range]; omega))))) (congrArg D.bl (by simp)))) rfl)
  rw [List.all_eq_true]
  exact fun c hc => decide_eq_true (figs c (n3 c hc).1 (n3 c hc).2)
end
end Tly
end
section
set_option Elab.async false
set_option linter.all false
set_option maxRecDepth 100000
set_option maxHeartbeats 2000000
namespace Tly
open PySem PySem.Spec PyProof.Rows L2 Dl
theorem tables_eq {t : Tal} (h : t.Ok) : t.tables = t.dg.map (tab t) := by
  refine List.ext_getElem? fun i => ?_
  rw [List.getElem?_map]
  cases e : t.dg[i]? with
  | none =>
    have := List.getElem?_eq_none_iff.mp e
    rw [List.getElem?_eq_none (by rw [h.len]; exact this)]
    rfl
  | some c =>
    have hl := (List.getElem?_eq_some_iff.mp e).1
    have h2 : t.tables[i]? = some (t.tables[i]'(by rw [h.len]; exact hl)) := List.getElem?_eq_getElem _
    rw [h2, Option.map_some, tab_at h.dnd e h2]
theorem tb_look {t : Tal} (h : t.Ok) {c : Nat} (hc : c ∈ t.dg) : dGet ((t.dg.map fun c => (Sum.inr (sg c) : Key)).zip (t.tables.map tabD)) (Sum.inr (sg c)) = some (tabD (tab t c)) := by
  have hm : (c, tab t c) ∈ t.dg.map fun c => (c, tab t c) := List.mem_map.mpr ⟨c, hc, rfl⟩
  have := d_get (kf := fun (k : Nat) => (Sum.inr (sg k) : Key)) (vf := tabD) sgK_inj (ns := t.dg.map fun c => (c, tab t c)) (by rw [List.map_map]; show (t.dg.map id).Nodup; rw [List.map_id]; exact h.dnd) hm
  rw [List.map_map, List.map_map] at this
  rw [tables_eq h, List.map_map]
  exact this
section
variable {X : Cx} {F : Fm} {δ : List LV} {pos : Pos}
theorem hs_expr {e : Expr} {x : D} {Φ : DE} (he : XE X F e δ x) (h : Φ.nx δ) (hs : swapsWith e none pos.line X.env = pure false := by rfl) : HS X F (.Expr e pos) δ Φ :=
  PS.imp (ps_expr he hs) fun E σ H ⟨H0, S, k⟩ => ⟨H0, S, fun v H' H0' g r => k.nx σ H' H0' δ g.s0 (S.gr g) h⟩
end
section
variable {P : Program} {w : World} {K : PySem.W.Frag} {mg : Str → Option Value} {base : Heap}
def flds (t : Tal) : List D := [.str (mkS t.dg), rowD t.start, .tup (t.tables.map tabD), rowD t.ends, .dk (t.dg.map fun c => .inr (sg c)) (t.tables.map tabD)]
def pre_init (ds fs : List D) : Prop := ∃ (t : Tal), t.Ok ∧ ds = [.str (mkS t.dg), rowD t.start, .tup (t.tables.map tabD), rowD t.ends] ∧ fs = flds t
theorem sc_init : FnScope ["self", "digits", "start", "tables", "ends"] ["self", "digits", "start", "tables", "ends"] (defScope s_Tally_init) := ⟨rfl, rfl, rfl, by decide +kernel, rfl, by decide +kernel, by decide +kernel⟩
theorem ok_Tally (W : Wd K mg) : Mkr P w K mg base (TA K) "Tally" 5 ["self", "digits", "start", "tables", "ends"] (FSpI (TA K) pre_init) := by
  obtain ⟨fd, Fd⟩ := W.says.def_ 13 (d := d_Tally_init) rfl
  have e1 : d_Tally_init.dvs K = [] := rfl
  have e2 : d_Tally_init.kws K = [] := rfl
  rw [e1, e2] at Fd
  have ea : He.fAd K d_Tally_init.at_ = He.ma K (TA K) "__init__" := rfl
  rw [ea] at Fd
  refine ⟨_, fd, W.g_Tally, W.mkr, Fd.bindsN (fun _ _ _ _ _ _ us hl => match us, hl with | [_, _, _, _, _], _ => rfl), fn_okI (k := 4) Fd sc_init (fun ds fs ⟨t, _, e, _⟩ => by rw [e]; rfl) (fun ds fs ⟨t, _, _, e⟩ => by rw [e]; rfl) fun cdv A outer s0 H E B Z x ds fs hp hr => ?_⟩
  obtain ⟨t, ok, rfl, rfl⟩ := hp
  have l1 := ok.sml
  have l2 := ok.dlen
  have d1 : D := .str (mkS t.dg)
  refine hss_skip (XT.eq (t_not (t_val (x_call (ok_are_digits W) (hr.mono (by omega)) (a_cons (x_var 1) a_nil) ⟨t.dg, ok.dgs, rfl, rfl⟩))) rfl) ?_
  refine hss_skip (XT.eq (XW.t (w_or (t_not (t_val (x_isi (ty := "tuple") W.b_isinstance (x_var 2) (fun _ z => (by change D.tup _ = _ at z; cases z)) W.b_tuple rfl rfl))) fun _ => w_or1 (t_not (t_val (x_call (ok_are_integers W) (hr.mono (by omega)) (a_cons (x_var 2) (a_cons (x_lenT W.b_len (XE.r (x_var 2))) a_nil)) ⟨t.start, by show t.n ≤ _; omega, by rw [List.length_map], rfl⟩))))) rfl) ?_
  refine hss_skip (XT.eq (t_not (t_val (x_call (ok_are_tables W) (hr.mono (by omega)) (a_cons (x_var 1) (a_cons (x_lenT W.b_len (XE.r (x_var 2))) (a_cons (x_var 3) a_nil))) ⟨t.n, t.dg, t.tables, ok.tabs, by omega, ok.len, by omega, by rw [List.length_map]; rfl, rfl⟩))) rfl) ?_
  refine hss_skip (XT.eq (t_not (t_val (x_call (ok_are_integers W) (hr.mono (by omega)) (a_cons (x_var 4) (a_cons (x_lenT W.b_len (XE.r (x_var 2))) a_nil)) ⟨t.ends, by rw [ok.ends]; omega, by rw [List.length_map, ok.ends]; rfl, rfl⟩))) rfl) ?_
  refine hss_seq [.N x [.str (mkS t.dg)], .d (.str (mkS t.dg)), .d (rowD t.start), .d (.tup (t.tables.map tabD)), .d (rowD t.ends)] (fun Φ' h => hs_self 0 W.cls W.na_digits (x_var 1) rfl rfl h) ?_
  refine hss_seq [.N x [.str (mkS t.dg), rowD t.start], .d (.str (mkS t.dg)), .d (rowD t.start), .d (.tup (t.tables.map tabD)), .d (rowD t.ends)] (fun Φ' h => hs_self 0 W.cls W.na_start (x_var 2) rfl rfl h) ?_
  refine hss_seq [.N x [.str (mkS t.dg), rowD t.start, .tup (t.tables.map tabD)], .d (.str (mkS t.dg)), .d (rowD t.start), .d (.tup (t.tables.map tabD)), .d (rowD t.ends)] (fun Φ' h => hs_self 0 W.cls W.na_tables (x_var 3) rfl rfl h) ?_
  refine hss_seq [.N x [.str (mkS t.dg), rowD t.start, .tup (t.tables.map tabD), rowD t.ends], .d (.str (mkS t.dg)), .d (rowD t.start), .d (.tup (t.tables.map tabD)), .d (rowD t.ends)] (fun Φ' h => hs_self 0 W.cls W.na_ends (x_var 4) rfl rfl h) ?_
  refine hss_one (hs_self 0 W.cls W.na_table_by_digit (XM.xe (m_dictZip W.b_dict W.b_zip (x_var 1) (x_var 3) (by rw [mkS_size, List.length_map, ok.len]) (by rw [mkS_list]; exact ok.dnd))) rfl rfl ?_)
  rw [mkS_list]
  rfl
def pre_me_len (ds : List D) (x : D) : Prop := ∃ (t : Tal), t.Ok ∧ ds = [t.d] ∧ x = .int t.n
theorem sc_me_len : FnScope ["self"] ["self"] (defScope s_Tally_len) := ⟨rfl, rfl, rfl, by decide +kernel, rfl, by decide +kernel, by decide +kernel⟩
theorem ok_me_len (W : Wd K mg) : Me P w K mg base (TA K) "__len__" 1 ["self"] (FSp (TA K) pre_me_len) := by
  refine mk_me (d := d_Tally_len) W 14 W.me_len rfl rfl rfl rfl sc_me_len (fun ds x h => by obtain ⟨t, ok, rfl, rfl⟩ := h; rfl) (fun _ _ _ _ _ _ us hl => match us, hl with | [_], _ => rfl) fun f cdv A outer s0 H E Z ds x hp hr => ?_
  obtain ⟨t, ok, rfl, rfl⟩ := hp
  have nd := sc_me_len.nd
  exact hss_one (hs_ret (XE.eq (x_lenT W.b_len (XE.r (x_fld 1 W.cls W.na_start (x_var 0)))) (congrArg D.int lenI)) rfl)
def pre_me_step (ds : List D) (x : D) : Prop := ∃ (t : Tal) (r : Row) (c : Nat), t.Ok ∧ r.length = t.n ∧ c ∈ t.dg ∧ ds = [t.d, rowD r, .str (sg c)] ∧ x = rowD (ledOn r (tab t c))
theorem sc_me_step : FnScope ["self", "row", "digit"] ["self", "row", "digit"] (defScope s_Tally_step) := ⟨rfl, rfl, rfl, by decide +kernel, rfl, by decide +kernel, by decide +kernel⟩
theorem ok_me_step (W : Wd K mg) : Me P w K mg base (TA K) "step" 3 ["self", "row", "digit"] (FSp (TA K) pre_me_step) := by
  refine mk_me (d := d_Tally_step) W 15 W.me_step rfl rfl rfl rfl sc_me_step (fun ds x h => by obtain ⟨t, r, c, ok, hl, hc, rfl, rfl⟩ := h; rfl) (fun _ _ _ _ _ _ us hl => match us, hl with | [_, _, _], _ => rfl) fun f cdv A outer s0 H E Z ds x hp hr => ?_
  obtain ⟨t, r, c, ok, hl, hc, rfl, rfl⟩ := hp
  have nd := sc_me_step.nd
  have l1 := ok.sml
  have hu1 := Nat.lt_of_le_of_lt (Nat.add_le_add_left (show 1 ≤ 64 by decide) _) hr.units
  exact hss_one (hs_ret (x_call (ok_led_on W) (hr.mono (by omega)) (a_cons (x_var 1) (a_cons (x_dget hu1 (XE.r (x_fld 4 W.cls W.na_table_by_digit (x_var 0))) (x_var 2) rfl (tb_look ok hc)) a_nil)) ⟨t.n, r, tab t c, ok.tab (tab_mem ok hc), by omega, hl, rfl, rfl⟩) rfl)
def pre_me_row (ds : List D) (x : D) : Prop := ∃ (t : Tal) (u : List Nat), t.Ok ∧ (∀ c ∈ u, c ∈ t.dg) ∧ u.length ≤ 1000 ∧ ds = [t.d, .str (mkS u)] ∧ x = rowD (rowT t u)
theorem sc_me_row : FnScope ["self", "ticket", "row", "digit"] ["self", "ticket"] (defScope s_Tally_row) := ⟨rfl, rfl, rfl, by decide +kernel, rfl, by decide +kernel, by decide +kernel⟩
theorem ok_me_row (W : Wd K mg) : Me P w K mg base (TA K) "row" 4 ["self", "ticket"] (FSp (TA K) pre_me_row) := by
  refine mk_me (d := d_Tally_row) W 16 W.me_row rfl rfl rfl rfl sc_me_row (fun ds x h => by obtain ⟨t, u, ok, hu, hl, rfl, rfl⟩ := h; rfl) (fun _ _ _ _ _ _ us hl => match us, hl with | [_, _], _ => rfl) fun f cdv A outer s0 H E Z ds x hp hr => ?_
  obtain ⟨t, u, ok, hu, hl, rfl, rfl⟩ := hp
  have nd := sc_me_row.nd
  refine hss_skip (XT.eq (t_not (t_val (x_call (ok_is_ticket W) (hr.mono (by omega)) (a_cons (x_fld 0 W.cls W.na_digits (x_var 0)) (a_cons (x_var 1) a_nil)) ⟨t.dg, u, hu, hl, rfl, rfl⟩))) rfl) ?_
  refine hss_seq [.d t.d, .d (.str (mkS u)), .d (rowD t.start), .un] (fun Φ' h => hs_set 2 nd (x_fld 1 W.cls W.na_start (x_var 0)) h) ?_
  refine hss_cons (fun d => ∃ a : LV, d = [.d t.d, .d (.str (mkS u)), .d (rowD (rowT t u)), a])
    (hs_forT (t := .one 3) u (fun c => D.str (sg c)) (fun i d => ∃ a : LV, d = [.d t.d, .d (.str (mkS u)), .d (rowD (rowT t (u.take i))), a])
      (XI.eq (i_str (x_var 1)) signs_mkS) (g_name 3 nd) ⟨_, rfl⟩ (fun i d c hc ⟨a, hd⟩ => ?_) (fun d ⟨a, hd⟩ => ⟨a, by rw [hd, List.take_length]⟩)) fun d ⟨a, hd⟩ => ?_
  · subst hd
    refine ⟨_, rfl, ?_⟩
    have et : rowT t (u.take (i + 1)) = ledOn (rowT t (u.take i)) (tab t c) := take_fold hc
    rw [et]
    exact hss_one (hs_set 2 nd (x_meth (ok_me_step W) (hr.mono (by omega)) W.cls (by decide) (x_var 0) (a_cons (x_var 2) (a_cons (x_var 3) a_nil)) ⟨t, _, c, ok, (row_ok ok fun d hd => hu d (List.mem_of_mem_take hd)).1, hu c (List.mem_of_getElem? hc), rfl, rfl⟩) ⟨_, rfl⟩)
  · subst hd
    exact hss_one (hs_ret (x_var 2) rfl)
def pre_me_table (ds : List D) (x : D) : Prop := ∃ (t : Tal) (u : List Nat), t.Ok ∧ (∀ c ∈ u, c ∈ t.dg) ∧ u.length ≤ 1000 ∧ ds = [t.d, .str (mkS u)] ∧ x = tabD (tableT t u)
theorem sc_me_table : FnScope ["self", "ticket", "table", "digit"] ["self", "ticket"] (defScope s_Tally_table) := ⟨rfl, rfl, rfl, by decide +kernel, rfl, by decide +kernel, by decide +kernel⟩
theorem ok_me_table (W : Wd K mg) : Me P w K mg base (TA K) "table" 4 ["self", "ticket"] (FSp (TA K) pre_me_table) := by
  refine mk_me (d := d_Tally_table) W 17 W.me_table rfl rfl rfl rfl sc_me_table (fun ds x h => by obtain ⟨t, u, ok, hu, hl, rfl, rfl⟩ := h; rfl) (fun _ _ _ _ _ _ us hl => match us, hl with | [_, _], _ => rfl) fun f cdv A outer s0 H E Z ds x hp hr => ?_
  obtain ⟨t, u, ok, hu, hl, rfl, rfl⟩ := hp
  have nd := sc_me_table.nd
  have l1 := ok.sml
  have hu1 := Nat.lt_of_le_of_lt (Nat.add_le_add_left (show 1 ≤ 64 by decide) _) hr.units
  refine hss_skip (XT.eq (t_not (t_val (x_call (ok_is_ticket W) (hr.mono (by omega)) (a_cons (x_fld 0 W.cls W.na_digits (x_var 0)) (a_cons (x_var 1) a_nil)) ⟨t.dg, u, hu, hl, rfl, rfl⟩))) rfl) ?_
  refine hss_seq [.d t.d, .d (.str (mkS u)), .d (tabD (still t.n)), .un] (fun Φ' h => hs_set 2 nd (x_call (ok_still_table W) (hr.mono (by omega)) (a_cons (XE.eq (x_lenT W.b_len (XE.r (x_fld 1 W.cls W.na_start (x_var 0)))) (congrArg D.int lenI)) a_nil) ⟨t.n, by omega, rfl, rfl⟩) h) ?_
  refine hss_cons (fun d => ∃ a : LV, d = [.d t.d, .d (.str (mkS u)), .d (tabD (tableT t u)), a])
    (hs_forT (t := .one 3) u (fun c => D.str (sg c)) (fun i d => ∃ a : LV, d = [.d t.d, .d (.str (mkS u)), .d (tabD (tableT t (u.take i))), a])
      (XI.eq (i_str (x_var 1)) signs_mkS) (g_name 3 nd) ⟨_, rfl⟩ (fun i d c hc ⟨a, hd⟩ => ?_) (fun d ⟨a, hd⟩ => ⟨a, by rw [hd, List.take_length]⟩)) fun d ⟨a, hd⟩ => ?_
  · subst hd
    refine ⟨_, rfl, ?_⟩
    have et : tableT t (u.take (i + 1)) = tabProd (tableT t (u.take i)) (tab t c) := take_fold hc
    rw [et]
    have hcd := hu c (List.mem_of_getElem? hc)
    exact hss_one (hs_set 2 nd (x_call (ok_table_product W) (hr.mono (by omega)) (a_cons (x_var 2) (a_cons (x_dget hu1 (XE.r (x_fld 4 W.cls W.na_table_by_digit (x_var 0))) (x_var 3) rfl (tb_look ok hcd)) a_nil)) ⟨t.n, _, tab t c, (table_ok ok fun d hd => hu d (List.mem_of_mem_take hd)).1, ok.tab (tab_mem ok hcd), by omega, rfl, rfl⟩) ⟨_, rfl⟩)
  · subst hd
    exact hss_one (hs_ret (x_var 2) rfl)
end
end Tly
end
section
set_option Elab.async false
set_option linter.all false
set_option maxRecDepth 100000
set_option maxHeartbeats 2000000
namespace Tly
open PySem PySem.Spec PyProof.Rows L2 Dl
theorem zip_tabs {as bs : List Tab} : zipD (as.map tabD) (bs.map tabD) = (as.zip bs).map fun z => D.tup [tabD z.1, tabD z.2] := by
  unfold zipD
  rw [List.zip_map, List.map_map]
  rfl
theorem zipWith_map' {α β γ : Type} {g : α → β → γ} : ∀ {as : List α} {bs : List β}, List.zipWith g as bs = (as.zip bs).map fun z => g z.1 z.2
  | [], _ => by simp
  | _ :: _, [] => by simp
  | a :: as, b :: bs => by rw [List.zipWith_cons_cons, List.zip_cons_cons, List.map_cons, zipWith_map' (as := as)]
theorem enum_tab {m : Tab} : enumD (m.map rowD) = m.zipIdx.map fun z => D.tup [.int (z.2 : Nat), rowD z.1] := by
  unfold enumD
  rw [List.zipIdx_map, List.map_map]
  rfl
theorem rowD_ne {r : Row} (h : 1 ≤ r.length) : r.map D.int ≠ [] := fun z => by
  have := congrArg List.length z
  rw [List.length_map] at this
  simp at this
  rw [this] at h
  simp at h
section
variable {P : Program} {w : World} {K : PySem.W.Frag} {mg : Str → Option Value} {base : Heap}
def pre_need_same_digits (ds : List D) (x : D) : Prop := ∃ (a b : Tal), a.dg = b.dg ∧ ds = [a.d, b.d] ∧ x = .non
theorem sc_need_same_digits : FnScope ["one", "other"] ["one", "other"] (defScope s_need_same_digits) := ⟨rfl, rfl, rfl, by decide +kernel, rfl, by decide +kernel, by decide +kernel⟩
theorem ok_need_same_digits (W : Wd K mg) : Fn P w K mg base "need_same_digits" 1 ["one", "other"] (FSp (TA K) pre_need_same_digits) := by
  refine mk_fn (d := d_need_same_digits) W 52 47 rfl rfl rfl rfl rfl sc_need_same_digits (fun ds x h => by obtain ⟨a, b, e, rfl, rfl⟩ := h; rfl) (fun _ _ _ _ _ _ us hl => match us, hl with | [_, _], _ => rfl) fun f cdv A outer s0 H E Z ds x hp hr => ?_
  obtain ⟨a, b, e, rfl, rfl⟩ := hp
  have nd := sc_need_same_digits.nd
  exact hss_skip (XT.eq (t_ne (x_fld 0 W.cls W.na_digits (x_var 0)) (x_fld 0 W.cls W.na_digits (x_var 1))) (by rw [e]; simp)) (hss_nil rfl)
def pre_beside (ds : List D) (x : D) : Prop := ∃ (n k : Nat) (near far br : Tab), SqT' n near ∧ SqT' k far ∧ br.length = n ∧ (∀ r ∈ br, r.length = k) ∧ 1 ≤ n ∧ 1 ≤ k ∧ n ≤ 100 ∧ k ≤ 100 ∧ ds = [tabD near, tabD far, .lst (br.map rowD)] ∧ x = tabD (besideT near far br)
theorem sc_beside : FnScope ["table", "other", "bridge", "left", "right", "state", "row"] ["table", "other", "bridge"] (defScope s_beside) := ⟨rfl, rfl, rfl, by decide +kernel, rfl, by decide +kernel, by decide +kernel⟩
theorem ok_beside (W : Wd K mg) : Fn P w K mg base "beside" 1 ["table", "other", "bridge"] (FSp (TA K) pre_beside) := by
  refine mk_fn (d := d_beside) W 53 48 rfl rfl rfl rfl rfl sc_beside (fun ds x h => by obtain ⟨n, k, near, far, br, sn, sf, lb, rb, hn1, hk1, hn, hk, rfl, rfl⟩ := h; rfl) (fun _ _ _ _ _ _ us hl => match us, hl with | [_, _, _], _ => rfl) fun f cdv A outer s0 H E Z ds x hp hr => ?_
  obtain ⟨n, k, near, far, br, sn, sf, lb, rb, hn1, hk1, hn, hk, rfl, rfl⟩ := hp
  have nd := sc_beside.nd
  have ln := sn.1
  have lf := sf.1
  refine hss_seq [.d (tabD near), .d (tabD far), .d (.lst (br.map rowD)), .L (near.zipIdx.map fun z => rowD (z.1 ++ br.getD z.2 [])), .un, .un, .un] (fun Φ' h => hs_setMap 3 [("state", 5), ("row", 6)] (.tup [5, 6]) near.zipIdx (fun z => D.tup [.int (z.2 : Nat), rowD z.1]) (fun z => rowD (z.1 ++ br.getD z.2 [])) nd (XI.eq (i_enumT W.b_enumerate (x_var 0)) enum_tab) (blkOk_by (by kernel_rfl)) (fun _ _ _ _ _ => g_tup (gs_cons 5 (gs_cons 6 gs_nil nd) nd)) (fun z hz => by
      have h1 := List.mem_zipIdx_iff_getElem?.mp hz
      have h1 : near[z.2]? = some z.1 := h1
      have hi : z.2 < br.length := by rw [lb, ← ln]; exact (List.getElem?_eq_some_iff.mp h1).1
      have hb : br[z.2]? = some (br.getD z.2 []) := by rw [List.getD_eq_getElem?_getD, List.getElem?_eq_getElem hi]; rfl
      have l1 := sn.2 z.1 (List.mem_of_getElem? h1)
      have l2 := rb _ (List.mem_of_getElem? hb)
      exact ⟨_, rfl, fun _ _ _ _ _ => XE.eq (x_tup (a_star (.inl (x_var 6)) (a_star (.inl (x_ixL (XE.r (x_var 2)) (x_var 5) (atI_nat (by rw [List.getElem?_map, hb]; rfl)))) a_nil)) (sl_ok (by simp only [List.length_append, List.length_map, List.length_nil]; omega))) (by unfold rowD; rw [List.append_nil, List.map_append])⟩) (by rw [List.length_zipIdx]; omega) h) ?_
  refine hss_seq [.d (tabD near), .d (tabD far), .d (.lst (br.map rowD)), .L (near.zipIdx.map fun z => rowD (z.1 ++ br.getD z.2 [])), .L (far.map fun r => rowD (List.replicate near.length 0 ++ r)), .un, .un] (fun Φ' h => hs_setMap 4 [("row", 6)] (.one 6) far rowD (fun r => rowD (List.replicate near.length 0 ++ r)) nd (i_tup (x_var 1)) (blkOk_by (by kernel_rfl)) (fun _ _ _ _ _ => g_name 6 nd) (fun r hr' => by
      have l1 := sf.2 r hr'
      have e0 : (List.replicate (((near.map rowD).length : Nat) : Int).toNat [D.int 0]).flatten = (List.replicate near.length (0 : Int)).map .int := by rw [List.length_map]; exact rep_flat
      exact ⟨_, rfl, fun _ _ _ _ _ => XE.eq (x_catT (XE.eq (x_repT (x_tup (a_cons x_int a_nil)) (x_lenT W.b_len (XE.r (x_var 0))) (by simp) (by rw [List.length_map]; omega) (by rw [List.length_map]; omega) (by simp)) (congrArg D.tup e0)) (x_var 6) (rowD_ne (by rw [List.length_replicate]; omega)) (rowD_ne (by omega)) (sl_ok (by rw [List.length_map, List.length_map, List.length_replicate]; omega))) (by unfold rowD; rw [List.map_append])⟩) (by omega) h) ?_
  refine hss_frL 3 ?_
  refine hss_frL 4 ?_
  refine hss_one (hs_ret (XE.eq (x_tupL W.b_tuple (XE.r (XL.xe (l_lst (a_star (xs := near.zipIdx.map fun z => rowD (z.1 ++ br.getD z.2 [])) (.inr (x_var 3)) (a_star (xs := far.map fun r => rowD (List.replicate near.length 0 ++ r)) (.inr (x_var 4)) a_nil)) (sl_ok (by simp only [List.length_append, List.length_map, List.length_nil, List.length_zipIdx]; omega)))))) ?_) rfl)
  show D.tup _ = tabD (besideT near far br)
  unfold besideT tabD
  rw [List.append_nil, List.map_append, List.map_map, List.map_map]
  rfl
theorem rep_one {α : Type} {n : Nat} {x : α} : (List.replicate ((n : Int)).toNat [x]).flatten = List.replicate n x := by
  rw [Int.toNat_natCast]
  induction n with
  | zero => rfl
  | succ n ih => rw [List.replicate_succ, List.flatten_cons, ih, List.replicate_succ]; rfl
def pre_without_bridge (ds : List D) (x : D) : Prop := ∃ (a b : Tal), a.Ok ∧ b.Ok ∧ ds = [a.d, b.d] ∧ x = .lst ((noBr a.n b.n).map rowD)
theorem sc_without_bridge : FnScope ["one", "other"] ["one", "other"] (defScope s_without_bridge) := ⟨rfl, rfl, rfl, by decide +kernel, rfl, by decide +kernel, by decide +kernel⟩
theorem ok_without_bridge (W : Wd K mg) : Fn P w K mg base "without_bridge" 3 ["one", "other"] (FSp (TA K) pre_without_bridge) := by
  refine mk_fn (d := d_without_bridge) W 54 49 rfl rfl rfl rfl rfl sc_without_bridge (fun ds x h => by obtain ⟨a, b, oa, ob, rfl, rfl⟩ := h; rfl) (fun _ _ _ _ _ _ us hl => match us, hl with | [_, _], _ => rfl) fun f cdv A outer s0 H E Z ds x hp hr => ?_
  obtain ⟨a, b, oa, ob, rfl, rfl⟩ := hp
  have nd := sc_without_bridge.nd
  have la := oa.sml
  have lb := ob.sml
  have pa := oa.pos
  have pb := ob.pos
  refine hss_one (hs_ret (XE.eq (XL.xe (l_repL (XE.r (XL.xe (l_lst (a_cons (XE.eq (x_repT (x_tup (a_cons x_int a_nil)) (x_lenI (ok_me_len W) (hr.mono (by omega)) W.b_len (x_var 1) ⟨b, ob, rfl, rfl⟩ (by omega) (by omega)) (by simp) (by omega) (by omega) (by simp)) (congrArg D.tup rep_flat)) a_nil)))) (x_lenI (ok_me_len W) (hr.mono (by omega)) W.b_len (x_var 0) ⟨a, oa, rfl, rfl⟩ (by omega) (by omega)) (by omega) (by omega) (by simp))) (congrArg D.lst ?_)) rfl)
  rw [rep_one]
  unfold noBr rowD
  rw [List.map_replicate, List.map_replicate, List.map_replicate]
def pre_added (ds : List D) (x : D) : Prop := ∃ (a b : Tal), a.Ok ∧ b.Ok ∧ a.dg = b.dg ∧ a.n + b.n ≤ 9 ∧ ds = [a.d, b.d] ∧ x = (addedT a b).d
theorem sc_added : FnScope ["one", "other", "bridge", "tables", "near", "far"] ["one", "other"] (defScope s_added) := ⟨rfl, rfl, rfl, by decide +kernel, rfl, by decide +kernel, by decide +kernel⟩
theorem ok_added (W : Wd K mg) : Fn P w K mg base "added" 7 ["one", "other"] (FSp (TA K) pre_added) := by
  refine mk_fn (d := d_added) W 55 50 rfl rfl rfl rfl rfl sc_added (fun ds x h => by obtain ⟨a, b, oa, ob, e, hs, rfl, rfl⟩ := h; rfl) (fun _ _ _ _ _ _ us hl => match us, hl with | [_, _], _ => rfl) fun f cdv A outer s0 H E Z ds x hp hr => ?_
  obtain ⟨a, b, oa, ob, e, hs, rfl, rfl⟩ := hp
  have nd := sc_added.nd
  have la := oa.sml
  have lb := ob.sml
  have pa := oa.pos
  have pb := ob.pos
  have ta := oa.tl
  have ea := oa.ends
  have eb := ob.ends
  have sa : a.start.length = a.n := rfl
  have sb : b.start.length = b.n := rfl
  have lt : a.tables.length = b.tables.length := by rw [oa.len, ob.len, e]
  refine hss_seq [.d a.d, .d b.d, .un, .un, .un, .un] (fun Φ' h => hs_expr (x_call (ok_need_same_digits W) (hr.mono (by omega)) (a_cons (x_var 0) (a_cons (x_var 1) a_nil)) ⟨a, b, e, rfl, rfl⟩) h) ?_
  refine hss_seq [.d a.d, .d b.d, .d (.lst ((noBr a.n b.n).map rowD)), .un, .un, .un] (fun Φ' h => hs_set 2 nd (x_call (ok_without_bridge W) (hr.mono (by omega)) (a_cons (x_var 0) (a_cons (x_var 1) a_nil)) ⟨a, b, oa, ob, rfl, rfl⟩) h) ?_
  refine hss_seq [.d a.d, .d b.d, .d (.lst ((noBr a.n b.n).map rowD)), .L ((addedT a b).tables.map tabD), .un, .un] (fun Φ' h => hs_setMap 3 [("near", 4), ("far", 5)] (.tup [4, 5]) (a.tables.zip b.tables) (fun z => D.tup [tabD z.1, tabD z.2]) (fun z => tabD (besideT z.1 z.2 (noBr a.n b.n))) nd (XI.eq (i_zipTT W.b_zip (x_fld 2 W.cls W.na_tables (x_var 0)) (x_fld 2 W.cls W.na_tables (x_var 1)) (by rw [List.length_map, List.length_map, lt])) zip_tabs) (blkOk_by (by kernel_rfl)) (fun _ _ _ _ _ => g_tup (gs_cons 4 (gs_cons 5 gs_nil nd) nd)) (fun z hz => ⟨_, rfl, fun _ _ _ _ _ => x_call (ok_beside W) (hr.mono (by omega)) (a_cons (x_var 4) (a_cons (x_var 5) (a_cons (x_var 2) a_nil))) ⟨a.n, b.n, z.1, z.2, noBr a.n b.n, oa.tabs _ (List.of_mem_zip hz).1, ob.tabs _ (List.of_mem_zip hz).2, by unfold noBr; simp, fun r hr' => by rw [(List.mem_replicate.mp hr').2]; simp, pa, pb, by omega, by omega, rfl, rfl⟩⟩) (by rw [List.length_zip]; omega) (by
      have et : (addedT a b).tables.map tabD = (a.tables.zip b.tables).map fun z => tabD (besideT z.1 z.2 (noBr a.n b.n)) := by
        show (List.zipWith (fun x y => besideT x y (noBr a.n b.n)) a.tables b.tables).map tabD = _
        rw [zipWith_map', List.map_map]; rfl
      rw [← et]
      exact h)) ?_
  refine hss_frL 3 (hss_one (hs_ret (x_make (fs := flds (addedT a b)) (ok_Tally W) (hr.mono (by omega)) (a_cons (x_fld 0 W.cls W.na_digits (x_var 0)) (a_cons (XE.eq (x_catT (x_fld 1 W.cls W.na_start (x_var 0)) (x_fld 1 W.cls W.na_start (x_var 1)) (rowD_ne (by omega)) (rowD_ne (by omega)) (sl_ok (by rw [List.length_map, List.length_map]; omega))) (show _ = rowD (addedT a b).start by show _ = D.tup ((a.start ++ b.start).map .int); rw [List.map_append])) (a_cons (x_tupL W.b_tuple (XE.r (x_var 3))) (a_cons (XE.eq (x_catT (x_fld 3 W.cls W.na_ends (x_var 0)) (x_fld 3 W.cls W.na_ends (x_var 1)) (rowD_ne (by omega)) (rowD_ne (by omega)) (sl_ok (by rw [List.length_map, List.length_map]; omega))) (show _ = rowD (addedT a b).ends by show _ = D.tup ((a.ends ++ b.ends).map .int); rw [List.map_append])) a_nil)))) ⟨addedT a b, added_ok oa ob e hs, rfl, rfl⟩ rfl) rfl))
def pre_times (ds : List D) (x : D) : Prop := ∃ (a : Tal) (k : Int), a.Ok ∧ 0 ≤ k ∧ k ≤ 1000 ∧ ds = [.int k, a.d] ∧ x = (timesT k a).d
theorem sc_times : FnScope ["number", "tally", "end"] ["number", "tally"] (defScope s_times) := ⟨rfl, rfl, rfl, by decide +kernel, rfl, by decide +kernel, by decide +kernel⟩
theorem ok_times (W : Wd K mg) : Fn P w K mg base "times" 7 ["number", "tally"] (FSp (TA K) pre_times) := by
  refine mk_fn (d := d_times) W 56 51 rfl rfl rfl rfl rfl sc_times (fun ds x h => by obtain ⟨a, k, oa, k0, k1, rfl, rfl⟩ := h; rfl) (fun _ _ _ _ _ _ us hl => match us, hl with | [_, _], _ => rfl) fun f cdv A outer s0 H E Z ds x hp hr => ?_
  obtain ⟨a, k, oa, k0, k1, rfl, rfl⟩ := hp
  have nd := sc_times.nd
  have la := oa.sml
  have ea := oa.ends
  exact hss_one (hs_ret (x_make (fs := flds (timesT k a)) (ok_Tally W) (hr.mono (by omega)) (a_cons (x_fld 0 W.cls W.na_digits (x_var 1)) (a_cons (x_fld 1 W.cls W.na_start (x_var 1)) (a_cons (x_fld 2 W.cls W.na_tables (x_var 1)) (a_cons (XE.eq (x_tupL W.b_tuple (XE.r (XL.xe (l_map [("end", 2)] (.one 2) a.ends (fun i => .int i) (fun i => .int (k * i)) nd (i_tup (x_fld 3 W.cls W.na_ends (x_var 1))) (blkOk_by (by kernel_rfl)) (fun _ _ _ _ _ => g_name 2 nd) (fun i hi => ⟨_, rfl, fun _ _ _ _ _ => x_mul (x_var 0) (x_var 2) (Or.inl ⟨by omega, by omega⟩)⟩) (by omega))))) (show _ = rowD (timesT k a).ends by show _ = D.tup ((a.ends.map fun x => k * x).map .int); rw [List.map_map]; rfl)) a_nil)))) ⟨timesT k a, times_ok k0 oa, rfl, rfl⟩ rfl) rfl)
def pre_row_products (ds : List D) (x : D) : Prop := ∃ (r s : Row), r.length ≤ 100 ∧ s.length ≤ 100 ∧ (∀ x ∈ s, 0 ≤ x ∧ x ≤ 1000000) ∧ ds = [rowD r, rowD s] ∧ x = rowD (rowP r s)
theorem sc_row_products : FnScope ["row", "other", "number", "mate"] ["row", "other"] (defScope s_row_products) := ⟨rfl, rfl, rfl, by decide +kernel, rfl, by decide +kernel, by decide +kernel⟩
theorem ok_row_products (W : Wd K mg) : Fn P w K mg base "row_products" 1 ["row", "other"] (FSp (TA K) pre_row_products) := by
  refine mk_fn (d := d_row_products) W 57 52 rfl rfl rfl rfl rfl sc_row_products (fun ds x h => by obtain ⟨r, s, h1, h2, hs, rfl, rfl⟩ := h; rfl) (fun _ _ _ _ _ _ us hl => match us, hl with | [_, _], _ => rfl) fun f cdv A outer s0 H E Z ds x hp hr => ?_
  obtain ⟨r, s, h1, h2, hs, rfl, rfl⟩ := hp
  have nd := sc_row_products.nd
  exact hss_one (hs_ret (XE.eq (x_tupL W.b_tuple (XE.r (XL.xe (l_lc2 [("number", 2), ("mate", 3)] (.one 2) (.one 3) r (fun i => .int i) s (fun i => .int i) (fun i j => .int (i * j)) nd (i_tup (x_var 0)) (blkOk_by (by kernel_rfl)) (fun _ _ _ _ _ => g_name 2 nd) (fun _ _ _ _ _ => g_name 3 nd) (fun i hi => ⟨_, rfl, rfl, fun _ _ _ _ _ => i_tup (x_var 1), fun j hj => ⟨_, rfl, fun _ _ _ _ _ => x_mul (x_var 2) (x_var 3) (cmul_of (hs j hj).1 (hs j hj).2)⟩⟩) (by have := Nat.mul_le_mul h1 h2; omega))))) (show _ = rowD (rowP r s) by
    unfold rowD rowP
    rw [List.map_flatMap]
    congr 2
    funext i
    rw [List.map_map]
    rfl)) rfl)
def pre_table_products (ds : List D) (x : D) : Prop := ∃ (n k : Nat) (a b : Tab), SqT' n a ∧ TabOk k b ∧ n ≤ 100 ∧ k ≤ 100 ∧ ds = [tabD a, tabD b] ∧ x = tabD (tabP a b)
theorem sc_table_products : FnScope ["table", "other", "row", "mate"] ["table", "other"] (defScope s_table_products) := ⟨rfl, rfl, rfl, by decide +kernel, rfl, by decide +kernel, by decide +kernel⟩
theorem ok_table_products (W : Wd K mg) : Fn P w K mg base "table_products" 2 ["table", "other"] (FSp (TA K) pre_table_products) := by
  refine mk_fn (d := d_table_products) W 58 53 rfl rfl rfl rfl rfl sc_table_products (fun ds x h => by obtain ⟨n, k, a, b, sa, tb, hn, hk, rfl, rfl⟩ := h; rfl) (fun _ _ _ _ _ _ us hl => match us, hl with | [_, _], _ => rfl) fun f cdv A outer s0 H E Z ds x hp hr => ?_
  obtain ⟨n, k, a, b, sa, tb, hn, hk, rfl, rfl⟩ := hp
  have nd := sc_table_products.nd
  have l1 := sa.1
  have l2 := tb.sq.1
  exact hss_one (hs_ret (XE.eq (x_tupL W.b_tuple (XE.r (XL.xe (l_lc2 [("row", 2), ("mate", 3)] (.one 2) (.one 3) a rowD b rowD (fun r s => rowD (rowP r s)) nd (i_tup (x_var 0)) (blkOk_by (by kernel_rfl)) (fun _ _ _ _ _ => g_name 2 nd) (fun _ _ _ _ _ => g_name 3 nd) (fun r hr' => ⟨_, rfl, rfl, fun _ _ _ _ _ => i_tup (x_var 1), fun s hs => ⟨_, rfl, fun _ _ _ _ _ => x_call (ok_row_products W) (hr.mono (by omega)) (a_cons (x_var 2) (a_cons (x_var 3) a_nil)) ⟨r, s, by rw [sa.2 r hr']; exact hn, by rw [tb.sq.2 s hs]; exact hk, fun x hx => ⟨tb.nn s hs x hx, tb.bd s hs x hx⟩, rfl, rfl⟩⟩⟩) (by rw [l1, l2]; have := Nat.mul_le_mul hn hk; omega))))) (show _ = tabD (tabP a b) by
    unfold tabD tabP
    rw [List.map_flatMap]
    congr 2
    funext i
    rw [List.map_map]
    rfl)) rfl)
def pre_multiplied (ds : List D) (x : D) : Prop := ∃ (a b : Tal), a.Ok ∧ b.Ok ∧ a.Base ∧ b.Base ∧ a.dg = b.dg ∧ a.n * b.n ≤ 9 ∧ ds = [a.d, b.d] ∧ x = (mulT a b).d
theorem sc_multiplied : FnScope ["one", "other", "tables", "near", "far"] ["one", "other"] (defScope s_multiplied) := ⟨rfl, rfl, rfl, by decide +kernel, rfl, by decide +kernel, by decide +kernel⟩
theorem ok_multiplied (W : Wd K mg) : Fn P w K mg base "multiplied" 7 ["one", "other"] (FSp (TA K) pre_multiplied) := by
  refine mk_fn (d := d_multiplied) W 59 54 rfl rfl rfl rfl rfl sc_multiplied (fun ds x h => by obtain ⟨a, b, oa, ob, ba, bb, e, hs, rfl, rfl⟩ := h; rfl) (fun _ _ _ _ _ _ us hl => match us, hl with | [_, _], _ => rfl) fun f cdv A outer s0 H E Z ds x hp hr => ?_
  obtain ⟨a, b, oa, ob, ba, bb, e, hs, rfl, rfl⟩ := hp
  have nd := sc_multiplied.nd
  have la := oa.sml
  have lb := ob.sml
  have ta := oa.tl
  have ea := oa.ends
  have eb := ob.ends
  have sa : a.start.length = a.n := rfl
  have sb : b.start.length = b.n := rfl
  have lt : a.tables.length = b.tables.length := by rw [oa.len, ob.len, e]
  refine hss_seq [.d a.d, .d b.d, .un, .un, .un] (fun Φ' h => hs_expr (x_call (ok_need_same_digits W) (hr.mono (by omega)) (a_cons (x_var 0) (a_cons (x_var 1) a_nil)) ⟨a, b, e, rfl, rfl⟩) h) ?_
  refine hss_seq [.d a.d, .d b.d, .L ((mulT a b).tables.map tabD), .un, .un] (fun Φ' h => hs_setMap 2 [("near", 3), ("far", 4)] (.tup [3, 4]) (a.tables.zip b.tables) (fun z => D.tup [tabD z.1, tabD z.2]) (fun z => tabD (tabP z.1 z.2)) nd (XI.eq (i_zipTT W.b_zip (x_fld 2 W.cls W.na_tables (x_var 0)) (x_fld 2 W.cls W.na_tables (x_var 1)) (by rw [List.length_map, List.length_map, lt])) zip_tabs) (blkOk_by (by kernel_rfl)) (fun _ _ _ _ _ => g_tup (gs_cons 3 (gs_cons 4 gs_nil nd) nd)) (fun z hz => ⟨_, rfl, fun _ _ _ _ _ => x_call (ok_table_products W) (hr.mono (by omega)) (a_cons (x_var 3) (a_cons (x_var 4) a_nil)) ⟨a.n, b.n, z.1, z.2, oa.tabs _ (List.of_mem_zip hz).1, ob.tab (List.of_mem_zip hz).2, by omega, by omega, rfl, rfl⟩⟩) (by rw [List.length_zip]; omega) (by
      have et : (mulT a b).tables.map tabD = (a.tables.zip b.tables).map fun z => tabD (tabP z.1 z.2) := by
        show (List.zipWith tabP a.tables b.tables).map tabD = _
        rw [zipWith_map', List.map_map]; rfl
      rw [← et]
      exact h)) ?_
  refine hss_frL 2 (hss_one (hs_ret (x_make (fs := flds (mulT a b)) (ok_Tally W) (hr.mono (by omega)) (a_cons (x_fld 0 W.cls W.na_digits (x_var 0)) (a_cons (x_call (ok_row_products W) (hr.mono (by omega)) (a_cons (x_fld 1 W.cls W.na_start (x_var 0)) (a_cons (x_fld 1 W.cls W.na_start (x_var 1)) a_nil)) ⟨a.start, b.start, by omega, by omega, fun x hx => ⟨ob.nnS x hx, by have := bb.s x hx; omega⟩, rfl, rfl⟩) (a_cons (x_tupL W.b_tuple (XE.r (x_var 2))) (a_cons (x_call (ok_row_products W) (hr.mono (by omega)) (a_cons (x_fld 3 W.cls W.na_ends (x_var 0)) (a_cons (x_fld 3 W.cls W.na_ends (x_var 1)) a_nil)) ⟨a.ends, b.ends, by omega, by omega, fun x hx => ⟨ob.nnE x hx, by have := bb.e x hx; omega⟩, rfl, rfl⟩) a_nil)))) ⟨mulT a b, mul_ok oa ob ba bb e hs, rfl, rfl⟩ rfl) rfl))
def pre_met (ds : List D) (x : D) : Prop := ∃ (a b : Tal), a.Ok ∧ b.Ok ∧ a.Base ∧ b.Base ∧ a.dg = b.dg ∧ a.n + b.n ≤ 9 ∧ ds = [a.d, b.d] ∧ x = (metT a b).d
theorem sc_met : FnScope ["one", "other", "begun", "tables", "near", "far", "bridge", "start", "worth", "number"] ["one", "other"] (defScope s_met) := ⟨rfl, rfl, rfl, by decide +kernel, rfl, by decide +kernel, by decide +kernel⟩
theorem ok_met (W : Wd K mg) : Fn P w K mg base "met" 7 ["one", "other"] (FSp (TA K) pre_met) := by
  refine mk_fn (d := d_met) W 60 55 rfl rfl rfl rfl rfl sc_met (fun ds x h => by obtain ⟨a, b, oa, ob, ba, bb, e, hs, rfl, rfl⟩ := h; rfl) (fun _ _ _ _ _ _ us hl => match us, hl with | [_, _], _ => rfl) fun f cdv A outer s0 H E Z ds x hp hr => ?_
  obtain ⟨a, b, oa, ob, ba, bb, e, hs, rfl, rfl⟩ := hp
  have nd := sc_met.nd
  have la := oa.sml
  have lb := ob.sml
  have pa := oa.pos
  have pb := ob.pos
  have ta := oa.tl
  have ea := oa.ends
  have eb := ob.ends
  have sa : a.start.length = a.n := rfl
  have sb : b.start.length = b.n := rfl
  have lt : a.tables.length = b.tables.length := by rw [oa.len, ob.len, e]
  have be : ∀ x ∈ a.ends, 0 ≤ x ∧ x ≤ 1000000 := fun x hx => ⟨oa.nnE x hx, by have := ba.e x hx; omega⟩
  have bs : ∀ x ∈ b.start, 0 ≤ x ∧ x ≤ 1000000 := fun x hx => ⟨ob.nnS x hx, by have := bb.s x hx; omega⟩
  let B := dot a.start a.ends
  refine hss_seq [.d a.d, .d b.d, .un, .un, .un, .un, .un, .un, .un, .un] (fun Φ' h => hs_expr (x_call (ok_need_same_digits W) (hr.mono (by omega)) (a_cons (x_var 0) (a_cons (x_var 1) a_nil)) ⟨a, b, e, rfl, rfl⟩) h) ?_
  refine hss_seq [.d a.d, .d b.d, .d (.int B), .un, .un, .un, .un, .un, .un, .un] (fun Φ' h => hs_set 2 nd (x_call (ok_product_of W) (hr.mono (by omega)) (a_cons (x_fld 1 W.cls W.na_start (x_var 0)) (a_cons (x_fld 3 W.cls W.na_ends (x_var 0)) a_nil)) ⟨a.start, a.ends, by rw [ea]; rfl, by omega, be, rfl, rfl⟩) h) ?_
  refine hss_seq [.d a.d, .d b.d, .d (.int B), .L [], .un, .un, .un, .un, .un, .un] (fun Φ' h => hs_setL 3 nd (l_lst a_nil) h) ?_
  let g := fun z : Tab × Tab => besideT z.1 z.2 (bridgeT a b z.1)
  have et : (metT a b).tables = (a.tables.zip b.tables).map g := by
    show List.zipWith (fun x y => besideT x y (bridgeT a b x)) a.tables b.tables = _
    rw [zipWith_map']
  refine hss_cons (fun d => ∃ x y z : LV, d = [.d a.d, .d b.d, .d (.int B), .L ((metT a b).tables.map tabD), x, y, z, .un, .un, .un])
    (hs_forT (t := .tup [4, 5]) (a.tables.zip b.tables) (fun z => D.tup [tabD z.1, tabD z.2]) (fun i d => ∃ x y z : LV, d = [.d a.d, .d b.d, .d (.int B), .L ((((a.tables.zip b.tables).take i).map g).map tabD), x, y, z, .un, .un, .un])
      (XI.eq (i_zipTT W.b_zip (x_fld 2 W.cls W.na_tables (x_var 0)) (x_fld 2 W.cls W.na_tables (x_var 1)) (by rw [List.length_map, List.length_map, lt])) zip_tabs) (g_tup (gs_cons 4 (gs_cons 5 gs_nil nd) nd)) ⟨_, _, _, rfl⟩ (fun i d z hz ⟨x, y, u, hd⟩ => ?_) (fun d ⟨x, y, u, hd⟩ => ⟨x, y, u, by rw [hd, List.take_length, et]⟩)) fun d ⟨x, y, u, hd⟩ => ?_
  · subst hd
    refine ⟨_, rfl, ?_⟩
    have hm := List.mem_of_getElem? hz
    have m1 := (List.of_mem_zip hm).1
    have m2 := (List.of_mem_zip hm).2
    have s1 := oa.tabs _ m1
    have lbr : (bridgeT a b z.1).length = a.n := by unfold bridgeT timesCol; rw [List.length_map, List.length_map]; exact s1.1
    have ltc : (timesCol z.1 a.ends).length = a.n := by unfold timesCol; rw [List.length_map]; exact s1.1
    refine hss_seq [.d a.d, .d b.d, .d (.int B), .L ((((a.tables.zip b.tables).take i).map g).map tabD), .d (tabD z.1), .d (tabD z.2), .L ((bridgeT a b z.1).map rowD), .un, .un, .un] (fun Φ' h => hs_setMap 6 [("worth", 8)] (.one 8) (timesCol z.1 a.ends) (fun i => .int i) (fun w => rowD (scaled w b.start)) nd (i_tup (x_call (ok_times_column W) (hr.mono (by omega)) (a_cons (x_var 4) (a_cons (x_fld 3 W.cls W.na_ends (x_var 0)) a_nil)) ⟨a.n, z.1, a.ends, s1, by omega, ea, be, rfl, rfl⟩)) (blkOk_by (by kernel_rfl)) (fun _ _ _ _ _ => g_name 8 nd) (fun w hw => ⟨_, rfl, fun _ _ _ _ _ => XE.eq (x_tupL W.b_tuple (XE.r (XL.xe (l_map [("number", 9)] (.one 9) b.start (fun i => .int i) (fun k => .int (w * k)) nd (i_tup (x_fld 1 W.cls W.na_start (x_var 1))) (blkOk_by (by kernel_rfl)) (fun _ _ _ _ _ => g_name 9 nd) (fun k hk => ⟨_, rfl, fun _ _ _ _ _ => x_mul (x_var 8) (x_var 9) (cmul_of (bs k hk).1 (bs k hk).2)⟩) (by omega))))) (by unfold rowD scaled; rw [List.map_map]; rfl)⟩) (by omega) (by
        have eb : (bridgeT a b z.1).map rowD = (timesCol z.1 a.ends).map fun w => rowD (scaled w b.start) := by unfold bridgeT; rw [List.map_map]; rfl
        rw [← eb]
        exact h)) ?_
    refine hss_frL 6 ?_
    refine hss_one (hs_append 3 (x_call (ok_beside W) (hr.mono (by omega)) (a_cons (x_var 4) (a_cons (x_var 5) (a_cons (x_var 6) a_nil))) ⟨a.n, b.n, z.1, z.2, bridgeT a b z.1, s1, ob.tabs _ m2, lbr, fun r hr' => by
      obtain ⟨w, _, rfl⟩ := List.mem_map.mp hr'
      rw [scaled_len, sb], pa, pb, by omega, by omega, rfl, rfl⟩) rfl (by rw [List.length_map, List.length_map, List.length_take, List.length_zip]; omega) ⟨.d (tabD z.1), .d (tabD z.2), .d (.lst ((bridgeT a b z.1).map rowD)), ?_⟩)
    rw [take_map hz, List.map_append]
    rfl
  · subst hd
    refine hss_drop 4 (hss_drop 5 (hss_drop 6 (hss_frL 3 ?_)))
    have es : rowD (metT a b).start = .tup (a.start.map .int ++ (scaled B b.start).map .int) := by show D.tup ((a.start ++ scaled B b.start).map .int) = _; rw [List.map_append]
    have en : rowD (metT a b).ends = .tup ((List.replicate a.n (0 : Int)).map .int ++ b.ends.map .int) := by show D.tup ((List.replicate a.n 0 ++ b.ends).map .int) = _; rw [List.map_append]
    have ls : (scaled B b.start).length = b.n := scaled_len
    refine hss_seq [.d a.d, .d b.d, .d (.int B), .d (.lst ((metT a b).tables.map tabD)), .un, .un, .un, .d (rowD (metT a b).start), .un, .un] (fun Φ' h => hs_set 7 nd (XE.eq (x_catT (x_fld 1 W.cls W.na_start (x_var 0)) (XE.eq (x_tupL W.b_tuple (XE.r (XL.xe (l_map [("number", 9)] (.one 9) b.start (fun i => .int i) (fun k => .int (B * k)) nd (i_tup (x_fld 1 W.cls W.na_start (x_var 1))) (blkOk_by (by kernel_rfl)) (fun _ _ _ _ _ => g_name 9 nd) (fun k hk => ⟨_, rfl, fun _ _ _ _ _ => x_mul (x_var 2) (x_var 9) (cmul_of (bs k hk).1 (bs k hk).2)⟩) (by omega))))) (show _ = D.tup ((scaled B b.start).map .int) by unfold scaled; rw [List.map_map]; rfl)) (rowD_ne (by omega)) (rowD_ne (by omega)) (sl_ok (by rw [List.length_map, List.length_map]; omega))) es.symm) h) ?_
    refine hss_one (hs_ret (x_make (fs := flds (metT a b)) (ok_Tally W) (hr.mono (by omega)) (a_cons (x_fld 0 W.cls W.na_digits (x_var 0)) (a_cons (x_var 7) (a_cons (x_tupL W.b_tuple (XE.r (x_var 3))) (a_cons (XE.eq (x_catT (XE.eq (x_repT (x_tup (a_cons x_int a_nil)) (x_lenI (ok_me_len W) (hr.mono (by omega)) W.b_len (x_var 0) ⟨a, oa, rfl, rfl⟩ (by omega) (by omega)) (by simp) (by omega) (by omega) (by simp)) (congrArg D.tup rep_flat)) (x_fld 3 W.cls W.na_ends (x_var 1)) (rowD_ne (by rw [List.length_replicate]; omega)) (rowD_ne (by omega)) (sl_ok (by rw [List.length_map, List.length_map, List.length_replicate]; omega))) en.symm) a_nil)))) ⟨metT a b, met_ok oa ob ba bb e hs, rfl, rfl⟩ rfl) rfl)
def pre_turned (ds : List D) (x : D) : Prop := ∃ (a : Tal), a.Ok ∧ ds = [a.d] ∧ x = (turnedT a).d
theorem sc_turned : FnScope ["tally", "table"] ["tally"] (defScope s_turned) := ⟨rfl, rfl, rfl, by decide +kernel, rfl, by decide +kernel, by decide +kernel⟩
theorem ok_turned (W : Wd K mg) : Fn P w K mg base "turned" 7 ["tally"] (FSp (TA K) pre_turned) := by
  refine mk_fn (d := d_turned) W 61 56 rfl rfl rfl rfl rfl sc_turned (fun ds x h => by obtain ⟨a, oa, rfl, rfl⟩ := h; rfl) (fun _ _ _ _ _ _ us hl => match us, hl with | [_], _ => rfl) fun f cdv A outer s0 H E Z ds x hp hr => ?_
  obtain ⟨a, oa, rfl, rfl⟩ := hp
  have nd := sc_turned.nd
  have la := oa.sml
  have ta := oa.tl
  exact hss_one (hs_ret (x_make (fs := flds (turnedT a)) (ok_Tally W) (hr.mono (by omega)) (a_cons (x_fld 0 W.cls W.na_digits (x_var 0)) (a_cons (x_fld 3 W.cls W.na_ends (x_var 0)) (a_cons (XE.eq (x_tupL W.b_tuple (XE.r (XL.xe (l_map [("table", 1)] (.one 1) a.tables tabD (fun m => tabD (colsOf m)) nd (i_tup (x_fld 2 W.cls W.na_tables (x_var 0))) (blkOk_by (by kernel_rfl)) (fun _ _ _ _ _ => g_name 1 nd) (fun m hm => ⟨_, rfl, fun _ _ _ _ _ => x_call (ok_turned_table W) (hr.mono (by omega)) (a_cons (x_var 1) a_nil) ⟨a.n, m, oa.tabs m hm, by omega, rfl, rfl⟩⟩) (by omega))))) (show _ = D.tup ((turnedT a).tables.map tabD) by show _ = D.tup ((a.tables.map colsOf).map tabD); rw [List.map_map]; rfl)) (a_cons (x_fld 1 W.cls W.na_start (x_var 0)) a_nil)))) ⟨turnedT a, turned_ok oa, rfl, rfl⟩ rfl) rfl)
def pre_ahead (ds : List D) (x : D) : Prop := ∃ (a : Tal) (u : List Nat), a.Ok ∧ (∀ c ∈ u, c ∈ a.dg) ∧ u.length ≤ 1000 ∧ ds = [a.d, .str (mkS u)] ∧ x = (aheadT a u).d
theorem sc_ahead : FnScope ["tally", "ticket"] ["tally", "ticket"] (defScope s_ahead) := ⟨rfl, rfl, rfl, by decide +kernel, rfl, by decide +kernel, by decide +kernel⟩
theorem ok_ahead (W : Wd K mg) : Fn P w K mg base "ahead" 7 ["tally", "ticket"] (FSp (TA K) pre_ahead) := by
  refine mk_fn (d := d_ahead) W 62 57 rfl rfl rfl rfl rfl sc_ahead (fun ds x h => by obtain ⟨a, u, oa, hu, hl, rfl, rfl⟩ := h; rfl) (fun _ _ _ _ _ _ us hl => match us, hl with | [_, _], _ => rfl) fun f cdv A outer s0 H E Z ds x hp hr => ?_
  obtain ⟨a, u, oa, hu, hl, rfl, rfl⟩ := hp
  have nd := sc_ahead.nd
  exact hss_one (hs_ret (x_make (fs := flds (aheadT a u)) (ok_Tally W) (hr.mono (by omega)) (a_cons (x_fld 0 W.cls W.na_digits (x_var 0)) (a_cons (x_meth (ok_me_row W) (hr.mono (by omega)) W.cls (by decide) (x_var 0) (a_cons (x_var 1) a_nil) ⟨a, u, oa, hu, hl, rfl, rfl⟩) (a_cons (x_fld 2 W.cls W.na_tables (x_var 0)) (a_cons (x_fld 3 W.cls W.na_ends (x_var 0)) a_nil)))) ⟨aheadT a u, ahead_ok oa hu, rfl, rfl⟩ rfl) rfl)
def pre_behind (ds : List D) (x : D) : Prop := ∃ (a : Tal) (u : List Nat), a.Ok ∧ a.Base ∧ (∀ c ∈ u, c ∈ a.dg) ∧ u.length ≤ 1000 ∧ ds = [a.d, .str (mkS u)] ∧ x = (behindT a u).d
theorem sc_behind : FnScope ["tally", "ticket"] ["tally", "ticket"] (defScope s_behind) := ⟨rfl, rfl, rfl, by decide +kernel, rfl, by decide +kernel, by decide +kernel⟩
theorem ok_behind (W : Wd K mg) : Fn P w K mg base "behind" 7 ["tally", "ticket"] (FSp (TA K) pre_behind) := by
  refine mk_fn (d := d_behind) W 63 58 rfl rfl rfl rfl rfl sc_behind (fun ds x h => by obtain ⟨a, u, oa, ba, hu, hl, rfl, rfl⟩ := h; rfl) (fun _ _ _ _ _ _ us hl => match us, hl with | [_, _], _ => rfl) fun f cdv A outer s0 H E Z ds x hp hr => ?_
  obtain ⟨a, u, oa, ba, hu, hl, rfl, rfl⟩ := hp
  have nd := sc_behind.nd
  have la := oa.sml
  exact hss_one (hs_ret (x_make (fs := flds (behindT a u)) (ok_Tally W) (hr.mono (by omega)) (a_cons (x_fld 0 W.cls W.na_digits (x_var 0)) (a_cons (x_fld 1 W.cls W.na_start (x_var 0)) (a_cons (x_fld 2 W.cls W.na_tables (x_var 0)) (a_cons (x_call (ok_times_column W) (hr.mono (by omega)) (a_cons (x_meth (ok_me_table W) (hr.mono (by omega)) W.cls (by decide) (x_var 0) (a_cons (x_var 1) a_nil) ⟨a, u, oa, hu, hl, rfl, rfl⟩) (a_cons (x_fld 3 W.cls W.na_ends (x_var 0)) a_nil)) ⟨a.n, tableT a u, a.ends, (table_ok oa hu).1, by omega, oa.ends, fun x hx => ⟨oa.nnE x hx, by have := ba.e x hx; omega⟩, rfl, rfl⟩) a_nil)))) ⟨behindT a u, behind_ok oa hu, rfl, rfl⟩ rfl) rfl)
end
end Tly
end
section
set_option Elab.async false
set_option linter.all false
set_option maxRecDepth 100000
set_option maxHeartbeats 2000000
/-! Drawing from the deck: expressions that change one owned slot, with answers known by a property alone. -/
namespace Dl
open PySem PySem.Spec PyProof.Rows L2
/-- both heaps have grown; the object of the slot i may have changed -/
structure GrY (σ : L2.St) (i : Nat) (H0 H H0' H' : Hp) : Prop where
  s : ∀ b o, σ[i]? ≠ some (some (V.ref b)) → H b = some o → H' b = some o
  s0 : Same H0 H0'
  ex : Same H0' H'
  nw : ∀ b o, H0' b = some o → H0 b = some o ∨ σ[i]? = some (some (V.ref b)) ∨ H b = none
/-- the deck stands in the slot i -/
structure DkAt (δ : Nat → List LV) (i : Nat) (d c : Addr) : Prop where
  at_ : ∀ n, (δ n)[i]? = some (.K d c n)
  set_ : ∀ n m, (δ n).set i (.K d c m) = δ m
section
variable {F : Fm} {H0 H H0' H' H1 H01 : Hp} {σ : L2.St} {δ : List LV} {i : Nat}
theorem GrY.refl (ex : Same H0 H) : GrY σ i H0 H H0 H := ⟨fun _ _ _ e => e, Same.refl _, ex, fun _ _ e => .inl e⟩
theorem Gr.y (g : Gr H0 H H0' H') : GrY σ i H0 H H0' H' := ⟨fun b o _ e => g.s b o e, g.s0, g.ex, fun b o e => (g.nw b o e).imp id .inr⟩
theorem GrY.trans (a : GrY σ i H0 H H01 H1) (b : GrY σ i H01 H1 H0' H') : GrY σ i H0 H H0' H' := by
  refine ⟨fun x o n e => b.s x o n (a.s x o n e), a.s0.trans b.s0, b.ex, fun x o e => ?_⟩
  rcases b.nw x o e with z | z | z
  · exact a.nw x o z
  · exact .inr (.inl z)
  · by_cases q : σ[i]? = some (some (V.ref x))
    · exact .inr (.inl q)
    · refine .inr (.inr ?_)
      cases w : H x with
      | none => rfl
      | some u => rw [a.s x u q w] at z; cases z
/-- the deck has changed, all else has grown -/
theorem SRep.deck {c d : Addr} {n n' : Nat} {m n1 : Int} (S : SRep F H0 σ H δ) (e : δ[i]? = some (.K d c n)) (ed : σ[i]? = some (some (V.ref d))) (keep : ∀ b o, b ≠ d → H b = some o → H' b = some o) (eH : H' d = some (.dK (dKvs c m n1)))
    (m0 : 0 ≤ m) (m1 : m < 2147483587) (z0 : 0 ≤ n1) (z1 : n1 ≤ n') (s0 : Same H0 H0') (ex : Same H0' H') (nw : ∀ b o, H0' b = some o → H0 b = some o ∨ b = d ∨ H b = none) (zd : H0' d = none) : SRep F H0' σ H' (δ.set i (.K d c n')) := by
  obtain ⟨d', ed', h0, hb, ow⟩ := S.own i _ e rfl
  rw [ed] at ed'; cases ed'
  have hsome := ow.some
  obtain ⟨_, hBc, _⟩ := ow
  have S1 : SRep F H0 σ (upd H d (.dK (dKvs c m n1))) (δ.set i (.K d c n')) := S.mutate (l' := .K d c n') e rfl ed rfl ⟨rfl, hBc, m, n1, upd_same, m0, m1, z0, z1⟩
  refine S1.grow (fun b o eb => ?_) s0 ex (fun b o eb => ?_)
  · by_cases q : b = d
    · subst q; rw [upd_same] at eb; cases eb; exact eH
    · rw [upd_ne q] at eb; exact keep b o q eb
  · rcases nw b o eb with z | z | z
    · exact .inl z
    · subst z; rw [zd] at eb; cases eb
    · by_cases q : b = d
      · subst q; rw [zd] at eb; cases eb
      · exact .inr (by rw [upd_ne q]; exact z)
/-- an object that no slot owns changes -/
theorem SRep.other {p : Addr} {o : HO} (S : SRep F H0 σ H δ) (h0 : H0 p = none) (hb : F.B p = none) (no : ∀ (j : Nat) (l : LV), δ[j]? = some l → isOwn l = true → σ[j]? ≠ some (some (V.ref p))) : SRep F H0 σ (upd H p o) δ := by
  refine ⟨S.zb, same_mut S.ex h0, same_mut S.bb hb, S.fr, S.len, S.dat, fun j m ej oj => ?_, S.sep⟩
  obtain ⟨c, ec, h1, h2, oc⟩ := S.own j m ej oj
  have ne : c ≠ p := fun z => by subst z; exact no j m ej oj ec
  exact ⟨c, ec, h1, h2, oc.mono (Same.refl _) (upd_ne ne)⟩
/-- .. becomes a datum -/
theorem SRep.add {p : Addr} {o : HO} (S : SRep F H0 σ H δ) (h : H p = some o) (h0 : H0 p = none) (hb : F.B p = none) (no : ∀ (j : Nat) (l : LV), δ[j]? = some l → isOwn l = true → σ[j]? ≠ some (some (V.ref p))) : SRep F (upd H0 p o) σ H δ := by
  have s0 : Same H0 (upd H0 p o) := same_new h0
  refine ⟨S.zb.trans s0, fun b x e => ?_, S.bb, fun b x e => ?_, S.len, fun j x e => ?_, fun j m ej oj => ?_, S.sep⟩
  · by_cases q : b = p
    · subst q; rw [upd_same] at e; cases e; exact h
    · rw [upd_ne q] at e; exact S.ex b x e
  · by_cases q : b = p
    · subst q; exact .inr hb
    · rw [upd_ne q] at e; exact S.fr b x e
  · obtain ⟨v, ev, r⟩ := S.dat j x e
    exact ⟨v, ev, Rep.mono s0 _ _ r⟩
  · obtain ⟨c, ec, h1, h2, oc⟩ := S.own j m ej oj
    have ne : c ≠ p := fun z => by subst z; exact no j m ej oj ec
    exact ⟨c, ec, by rw [upd_ne ne]; exact h1, h2, oc.mono s0 rfl⟩
end
def tY (F : Fm) (δ : Nat → List LV) (i n : Nat) (P : D → Prop) (k : Nat) : TE := fun σ H Q => ∃ H0, SRep F H0 σ H (δ n) ∧ ∀ v H' H0' x n', n' ≤ k → P x → GrY σ i H0 H H0' H' → SRep F H0' σ H' (δ n') → Rep F.T H0' x v → Q v H'
def tYT (F : Fm) (δ : Nat → List LV) (i n : Nat) (k : Nat) : TT := fun σ H Q => ∃ H0, SRep F H0 σ H (δ n) ∧ ∀ b H' H0' n', n' ≤ k → GrY σ i H0 H H0' H' → SRep F H0' σ H' (δ n') → Q b H'
def tYA (F : Fm) (δ : Nat → List LV) (i n : Nat) (P : List D → Prop) (k : Nat) : TA := fun σ H Q => ∃ H0, SRep F H0 σ H (δ n) ∧ ∀ vs H' H0' xs n', n' ≤ k → P xs → GrY σ i H0 H H0' H' → SRep F H0' σ H' (δ n') → Reps F.T H0' xs vs → Q vs H'
def tYI (F : Fm) (δ : Nat → List LV) (i n : Nat) (P : List D → Prop) (k : Nat) : TI := fun σ H R => ∃ H0, SRep F H0 σ H (δ n) ∧ ∀ J H' H0' xs n', n' ≤ k → P xs → GrY σ i H0 H H0' H' → SRep F H0' σ H' (δ n') → Yld F.T J H0' xs → R J H'
abbrev YE (X : Cx) (F : Fm) (e : Expr) (δ : Nat → List LV) (i n : Nat) (P : D → Prop) (k : Nat) : Prop := PE X e (tY F δ i n P k)
abbrev YT (X : Cx) (F : Fm) (e : Expr) (δ : Nat → List LV) (i n : Nat) (k : Nat) : Prop := PT X e (tYT F δ i n k)
abbrev YW (X : Cx) (F : Fm) (e : Expr) (δ : Nat → List LV) (i n : Nat) (k : Nat) : Prop := PW X e (tYT F δ i n k)
abbrev YA (X : Cx) (F : Fm) (es : List Expr) (δ : Nat → List LV) (i n : Nat) (P : List D → Prop) (k : Nat) : Prop := PA X es (tYA F δ i n P k)
abbrev YI (X : Cx) (F : Fm) (tg e : Expr) (δ : Nat → List LV) (i n : Nat) (P : List D → Prop) (k : Nat) : Prop := PI X tg e (tYI F δ i n P k)
def tAnyYE (X : Cx) (F : Fm) (e : Expr) : TE := fun σ H Q => ∃ δ i n P k, YE X F e δ i n P k ∧ tY F δ i n P k σ H Q
def tAnyYA (X : Cx) (F : Fm) (e : List Expr) : TA := fun σ H Q => ∃ δ i n P k, YA X F e δ i n P k ∧ tYA F δ i n P k σ H Q
section
variable {X : Cx} {F : Fm} {δ : Nat → List LV} {a b c e o tg : Expr} {es : List Expr} {x y z : D} {pos p p2 : Pos} {σ : L2.St} {H : Hp} {i n k k1 : Nat} {Φ : DE} {P Pa : D → Prop}
theorem any_ye : PE X e (tAnyYE X F e) := ⟨fun pins s σ H Q I ⟨δ, i, n, P, k, h, q⟩ => h.run pins s σ H Q I q⟩
theorem any_ya : PA X es (tAnyYA X F es) := ⟨fun pos pins s σ H Q I ⟨δ, i, n, P, k, h, q⟩ => h.run pos pins s σ H Q I q⟩
theorem xe_y (h : XE X F e (δ n) x) (hp : P x) (hk : n ≤ k) : YE X F e δ i n P k := PE.imp h fun σ H Q ⟨H0, S, c⟩ => ⟨H0, S, fun v H' H0' g r => c v H' H0' x n hk hp g.y (S.gr g) r⟩
theorem xi_y {xs : List D} {P : List D → Prop} (h : XI X F tg e (δ n) xs) (hp : P xs) (hk : n ≤ k) : YI X F tg e δ i n P k := PI.imp h fun σ H R ⟨H0, S, c⟩ => ⟨H0, S, fun J H' H0' g r => c J H' H0' xs n hk hp g.y (S.gr g) r⟩
theorem xt_y {q : Bool} (h : XT X F e (δ n) q) (hk : n ≤ k) : YT X F e δ i n k := PT.imp h fun σ H R ⟨H0, S, c⟩ => ⟨H0, S, fun H' H0' g => c q H' H0' n hk g.y (S.gr g)⟩
theorem YE.mono (h : YE X F e δ i n Pa k1) (hp : ∀ x, Pa x → P x) (hk : k1 ≤ k) : YE X F e δ i n P k := PE.imp h fun σ H Q ⟨H0, S, c⟩ => ⟨H0, S, fun v H' H0' x n' q1 q2 => c v H' H0' x n' (Nat.le_trans q1 hk) (hp x q2)⟩
/-- two operands -/
theorem y_op2 {r : R2} {Pb : D → D → Prop} (h : ∀ ta tb, PE X a ta → PE X b tb → PE X e (tOp r ta tb)) (ha : YE X F a δ i n Pa k1) (hb : ∀ x n1, Pa x → n1 ≤ k1 → YE X F b δ i n1 (Pb x) k)
    (hr : ∀ x y, Pa x → Pb x y → ∃ z, P z ∧ ∀ H0 H v w (Q : VK), Same H0 H → Rep F.T H0 x v → Rep F.T H0 y w → (∀ u, Rep F.T H0 z u → Q u H) → r v w H Q) : YE X F e δ i n P k :=
  PE.imp (h _ _ ha any_ye) fun σ H Q ⟨H0, S, c⟩ => ⟨H0, S, fun v H1 H01 x n1 q1 p1 g1 S1 r1 => ⟨δ, i, n1, Pb x, k, hb x n1 p1 q1, H01, S1, fun w H2 H02 y n2 q2 p2 g2 S2 r2 => by
    obtain ⟨z, pz, q⟩ := hr x y p1 p2
    exact q H02 H2 v w Q g2.ex (Rep.mono g2.s0 _ _ r1) r2 fun u ru => c u H2 H02 z n2 q2 pz (g1.trans g2) S2 ru⟩⟩
/-- ints within bounds, bools -/
def IR (lo hi : Int) : D → Prop := fun x => ∃ i : Int, x = .int i ∧ lo ≤ i ∧ i ≤ hi
def BP : D → Prop := fun x => ∃ b, x = .bl b
theorem rI0_y {i j : Int} {T : Addr} {H0 H : Hp} {v w : V} {g : Int → Int → V} {z : D} {Q : VK} (r1 : Rep T H0 (.int i) v) (r2 : Rep T H0 (.int j) w) (s : Sc z (g i j)) (k : ∀ u, Rep T H0 z u → Q u H) : rI0 g v w H Q :=
  ⟨i, j, rep_int.mp r1, rep_int.mp r2, k _ s.rep⟩
variable {lo hi lo2 hi2 : Int}
theorem y_gt {j : Int} (ha : YE X F a δ i n (IR lo hi) k) (hb : ∀ n1, n1 ≤ k → XE X F b (δ n1) (.int j)) (hm : behindInMarks .Gt b = false := by first | exact nomark _ | with_unfolding_all rfl) : YE X F (.Compare a [.Gt] [b] pos) δ i n BP k :=
  y_op2 (Pb := fun _ y => y = .int j) (fun _ _ h1 h2 => pe_cmpR op_gt h1 h2 hm) ha (fun x n1 _ q => xe_y (hb n1 q) rfl q) fun x y ⟨u, e, _⟩ e2 => ⟨.bl (decide (j < u)), ⟨_, rfl⟩, fun H0 H v w Q ex r1 r2 c => by
    subst e; subst e2; exact rI0_y r1 r2 (.bl _) c⟩
theorem y_eqI {j : Int} (ha : YE X F a δ i n (IR lo hi) k) (hb : ∀ n1, n1 ≤ k → XE X F b (δ n1) (.int j)) (hm : behindInMarks .Eq b = false := by first | exact nomark _ | with_unfolding_all rfl) : YE X F (.Compare a [.Eq] [b] pos) δ i n BP k :=
  y_op2 (Pb := fun _ y => y = .int j) (fun _ _ h1 h2 => pe_cmpR op_eq h1 h2 hm) ha (fun x n1 _ q => xe_y (hb n1 q) rfl q) fun x y ⟨u, e, _⟩ e2 => ⟨.bl (decide (V.int u = V.int j)), ⟨_, rfl⟩, fun H0 H v w Q ex r1 r2 c => by
    subst e; subst e2
    rw [rep_int.mp r1, rep_int.mp r2]
    exact ⟨rfl, c _ (rep_bl.mpr rfl)⟩⟩
theorem yt_eqI {j : Int} (ha : YE X F a δ i n (IR lo hi) k) (hb : ∀ n1, n1 ≤ k → XE X F b (δ n1) (.int j)) (hm : behindInMarks .Eq b = false := by first | exact nomark _ | with_unfolding_all rfl) : YT X F (.Compare a [.Eq] [b] pos) δ i n k :=
  PT.imp (pt_cmpR op_eq ha (any_ye (F := F)) hm) fun σ H Q ⟨H0, S, c⟩ => ⟨H0, S, fun v H1 H01 x n1 q1 ⟨u, e, _⟩ g1 S1 r1 => ⟨δ, i, n1, fun y => y = .int j, k, xe_y (hb n1 q1) rfl q1, H01, S1, fun w H2 H02 y n2 q2 e2 g2 S2 r2 => by
    subst e; subst e2
    rw [rep_int.mp r1, rep_int.mp r2]
    exact ⟨rfl, _, rfl, c _ H2 H02 n2 q2 (g1.trans g2) S2⟩⟩⟩
theorem y_mul (ha : YE X F a δ i n (IR 0 1) k1) (hb : ∀ n1, n1 ≤ k1 → YE X F b δ i n1 (IR lo hi) k) (h0 : 0 ≤ lo) (h1 : hi ≤ 1000000) : YE X F (.BinOp a .Mult b pos) δ i n (IR 0 hi) k :=
  y_op2 (Pb := fun _ => IR lo hi) (fun _ _ q1 q2 => pe_op op_mul q1 q2) ha (fun x n1 _ q => hb n1 q) fun x y ⟨u, e, u0, u1⟩ ⟨w, e2, w0, w1⟩ => ⟨.int (u * w), ⟨u * w, rfl, by
      have : u = 0 ∨ u = 1 := by omega
      rcases this with z | z <;> subst z <;> omega, by
      have : u = 0 ∨ u = 1 := by omega
      rcases this with z | z <;> subst z <;> omega⟩, fun H0 H v w' Q ex r1 r2 c => by
    subst e; subst e2
    exact ⟨u, w, rep_int.mp r1, rep_int.mp r2, .inl ⟨by omega, by omega⟩, c _ (rep_int.mpr rfl)⟩⟩
/-- picks by an index -/
theorem y_ixL {xs : List D} (ha : XE X F a (δ n) (.lst xs)) (hb : YE X F b δ i n (IR 0 ((xs.length : Int) - 1)) k) (hs : PlainIx b := by exact fun _ _ => rfl) : YE X F (.Subscript a b pos) δ i n (fun z => z ∈ xs) k :=
  PE.imp (pe_ix ix_list ha hb hs) fun σ H Q ⟨H0, S, c⟩ => ⟨H0, S, fun v H1 H01 g1 r1 => ⟨H01, S.gr g1, fun w H2 H02 y n2 q2 ⟨j, e, j0, j1⟩ g2 S2 r2 => by
    subst e
    obtain ⟨q, vs, rfl, e1, r⟩ := rep_lst.mp r1
    have hl := r.length
    obtain ⟨m, rfl⟩ : ∃ m : Nat, j = (m : Int) := ⟨j.toNat, by omega⟩
    have hm : m < xs.length := by omega
    have ex : xs[m]? = some xs[m] := List.getElem?_eq_getElem hm
    obtain ⟨u, q6, q7⟩ := r.get ex
    exact ⟨q, vs, m, u, rfl, rep_int.mp r2, SqL.of (g2.ex _ _ (g2.s0 _ _ e1)), atI_nat q6, c u H2 H02 xs[m] n2 q2 (List.getElem_mem hm) ((g1.y).trans g2) S2 (Rep.mono g2.s0 _ _ q7)⟩⟩⟩
theorem y_ixS {s : Str} (ha : XE X F a (δ n) (.str s)) (hz : s.length ≤ sizeLine) (hb : YE X F b δ i n (IR 0 ((s.cps.toList.length : Int) - 1)) k) (hs : PlainIx b := by exact fun _ _ => rfl) : YE X F (.Subscript a b pos) δ i n (fun z => ∃ ch ∈ s.cps.toList, z = .str (sg ch)) k :=
  PE.imp (pe_ix ix_str ha hb hs) fun σ H Q ⟨H0, S, c⟩ => ⟨H0, S, fun v H1 H01 g1 r1 => ⟨H01, S.gr g1, fun w H2 H02 y n2 q2 ⟨j, e, j0, j1⟩ g2 S2 r2 => by
    subst e
    obtain ⟨m, rfl⟩ : ∃ m : Nat, j = (m : Int) := ⟨j.toNat, by omega⟩
    have hm : m < s.cps.toList.length := by omega
    have ex : s.cps.toList[m]? = some s.cps.toList[m] := List.getElem?_eq_getElem hm
    exact ⟨s, m, s.cps.toList[m], rep_str.mp r1, rep_int.mp r2, hz, atI_nat ex, c _ H2 H02 (.str (sg s.cps.toList[m])) n2 q2 ⟨_, List.getElem_mem hm, rfl⟩ ((g1.y).trans g2) S2 (rep_str.mpr rfl)⟩⟩⟩
/-! ### arguments, built-ins -/
theorem ya_one {P : List D → Prop} (h : YE X F e δ i n Pa k) (hp : ∀ x, Pa x → P [x]) (hs : starEach [e] X.env = (false, eval e X.env) :: starEach [] X.env := by rfl) : YA X F [e] δ i n P k :=
  PA.imp (pa_cons h pa_nil hs) fun σ H Q ⟨H0, S, c⟩ => ⟨H0, S, fun v H' H0' x n' q1 q2 g S' r => c [v] H' H0' [x] n' q1 (hp x q2) g S' (reps_cons r reps_nil)⟩
theorem ya_cons {P : List D → Prop} (h : YE X F e δ i n Pa k1) (hr : ∀ x n1, Pa x → n1 ≤ k1 → YA X F es δ i n1 (fun xs => P (x :: xs)) k) (hs : starEach (e :: es) X.env = (false, eval e X.env) :: starEach es X.env := by rfl) : YA X F (e :: es) δ i n P k :=
  PA.imp (pa_cons h any_ya hs) fun σ H Q ⟨H0, S, c⟩ => ⟨H0, S, fun v H1 H01 x n1 q1 p1 g1 S1 r1 => ⟨δ, i, n1, _, k, hr x n1 p1 q1, H01, S1, fun vs H2 H02 xs n2 q2 p2 g2 S2 r2 => c (v :: vs) H2 H02 (x :: xs) n2 q2 p2 (g1.trans g2) S2 (reps_cons (Rep.mono g2.s0 _ _ r1) r2)⟩⟩
theorem y_callT {id : String} {m : Str} {r : List V → Hp → VK → Prop} {Pa : List D → Prop} (hc : CallR X (.type id) r) (hm : X.mg m = none) (hv : bootBuiltins m = some (.type id)) (ha : YA X F (e :: es) δ i n Pa k)
    (hr : ∀ xs, Pa xs → ∃ z, P z ∧ ∀ H0 H vs (Q : VK), Same H0 H → Reps F.T H0 xs vs → (∀ u H1 H01, Gr H0 H H01 H1 → Rep F.T H01 z u → Q u H1) → r vs H Q) (hg : Gl X m := by rfl) (hn : m ≠ "__name__" := by decide) (hdb : (m == ("__debug__" : Str)) = false := by decide)
    (he : starEach (e :: es) X.env = (false, eval e X.env) :: starEach es X.env := by rfl) (hpl : (backTo pos (starEach es X.env)).any (·.1) = false := by rfl) : YE X F (.Call (.Name m p) (e :: es) [] pos) δ i n P k :=
  PE.imp (pe_callTy hc hg hm hv ha hn hdb he hpl) fun σ H Q ⟨H0, S, c⟩ => ⟨H0, S, fun vs H' H0' xs n' q1 p1 g S' rs => by
    obtain ⟨z, pz, q⟩ := hr xs p1
    exact q H0' H' vs Q g.ex rs fun u H1 H01 g1 ru => c u H1 H01 z n' q1 pz (g.trans g1.y) (S'.gr g1) ru⟩
theorem y_callB {id : String} {m : Str} {r : List V → Hp → VK → Prop} {Pa : List D → Prop} (hc : CallR X (.builtin id) r) (hm : X.mg m = none) (hv : bootBuiltins m = some (.builtin id)) (ha : YA X F (e :: es) δ i n Pa k)
    (hr : ∀ xs, Pa xs → ∃ z, P z ∧ ∀ H0 H vs (Q : VK), Same H0 H → Reps F.T H0 xs vs → (∀ u H1 H01, Gr H0 H H01 H1 → Rep F.T H01 z u → Q u H1) → r vs H Q) (hg : Gl X m := by rfl) (hn : m ≠ "__name__" := by decide) (hdb : (m == ("__debug__" : Str)) = false := by decide)
    (he : starEach (e :: es) X.env = (false, eval e X.env) :: starEach es X.env := by rfl) (hpl : (backTo pos (starEach es X.env)).any (·.1) = false := by rfl) : YE X F (.Call (.Name m p) (e :: es) [] pos) δ i n P k :=
  PE.imp (pe_callB hc hg hm hv ha hn hdb he hpl) fun σ H Q ⟨H0, S, c⟩ => ⟨H0, S, fun vs H' H0' xs n' q1 p1 g S' rs => by
    obtain ⟨z, pz, q⟩ := hr xs p1
    exact q H0' H' vs Q g.ex rs fun u H1 H01 g1 ru => c u H1 H01 z n' q1 pz (g.trans g1.y) (S'.gr g1) ru⟩
theorem y_intB (hm : X.mg "int" = none) (ha : YE X F a δ i n BP k) (hg : Gl X "int" := by rfl) (h1 : starEach [a] X.env = (false, eval a X.env) :: starEach [] X.env := by rfl) : YE X F (.Call (.Name "int" p) [a] [] pos) δ i n (IR 0 1) k :=
  y_callT call_int1 hm (by decide +kernel) (ya_one (P := fun xs => ∃ b, xs = [.bl b]) ha (fun x ⟨b, e⟩ => ⟨b, by rw [e]⟩) h1) (fun xs ⟨b, e⟩ => ⟨.int (if b then 1 else 0), ⟨_, rfl, by split <;> omega, by split <;> omega⟩, fun H0 H vs Q ex r c => by
    subst e
    obtain ⟨v, rfl, r1⟩ := r.one
    rw [rep_bl.mp r1]
    exact .inr ⟨b, rfl, c _ H H0 (Gr.refl ex) (rep_int.mpr rfl)⟩⟩) hg (he := h1)
theorem y_tupL {PL : List D → Prop} (hm : X.mg "tuple" = none) (ha : YE X F a δ i n (fun z => ∃ xs, z = .lst xs ∧ PL xs) k) (hg : Gl X "tuple" := by rfl) (h1 : starEach [a] X.env = (false, eval a X.env) :: starEach [] X.env := by rfl) : YE X F (.Call (.Name "tuple" p) [a] [] pos) δ i n (fun z => ∃ xs, z = .tup xs ∧ PL xs) k :=
  y_callT call_tuple_of hm (by decide +kernel) (ya_one (P := fun xs => ∃ ys, xs = [.lst ys] ∧ PL ys) ha (fun x ⟨b, e, q⟩ => ⟨b, by rw [e], q⟩) h1) (fun xs ⟨ys, e, q⟩ => ⟨.tup ys, ⟨ys, rfl, q⟩, fun H0 H vs Q ex r c => by
    subst e
    obtain ⟨v, rfl, r1⟩ := r.one
    obtain ⟨q, us, rfl, e1, rs⟩ := rep_lst.mp r1
    exact ⟨q, us, rfl, .inl ⟨SqL.of (ex _ _ e1), fun l hl => c _ _ (upd H0 l (.tup us)) (Gr.new ex hl) (rep_tup.mpr ⟨l, us, rfl, upd_same, Reps.mono (same_new (ex.free hl)) _ _ rs⟩)⟩⟩⟩) hg (he := h1)
theorem y_min2 {u : Int} (hm : X.mg "min" = none) (ha : XE X F a (δ n) (.int u)) (hb : YE X F b δ i n (IR lo hi) k) (hn : n ≤ k) (hc : X.calm = true := by rfl) (hg : Gl X "min" := by rfl) (h1 : starEach [a, b] X.env = (false, eval a X.env) :: starEach [b] X.env := by rfl) (h2 : starEach [b] X.env = (false, eval b X.env) :: starEach [] X.env := by rfl) (hpl : (backTo pos (starEach [b] X.env)).any (·.1) = false := by rfl) :
    YE X F (.Call (.Name "min" p) [a, b] [] pos) δ i n (IR (min u lo) u) k :=
  y_callB (call_min2 hc) hm (by decide +kernel) (Pa := fun xs => ∃ w, xs = [.int u, .int w] ∧ lo ≤ w ∧ w ≤ hi) (PA.imp (pa_cons ha (pa_cons hb pa_nil h2) h1) fun σ H Q ⟨H0, S, c⟩ => ⟨H0, S, fun v H1 H01 g1 r1 => ⟨H01, S.gr g1, fun w H2 H02 y n2 q2 ⟨j, e, j0, j1⟩ g2 S2 r2 => c [v, w] H2 H02 [.int u, y] n2 q2 ⟨j, by rw [e], j0, j1⟩ ((g1.y).trans g2) S2 (reps_cons (Rep.mono g2.s0 _ _ r1) (reps_cons r2 reps_nil))⟩⟩) (fun xs ⟨w, e, w0, w1⟩ => ⟨.int (if w < u then w else u), ⟨_, rfl, by split <;> omega, by split <;> omega⟩, fun H0 H vs Q ex r c => by
    subst e
    obtain ⟨v, v2, rfl, r1, r2⟩ := r.two
    rw [rep_int.mp r1, rep_int.mp r2]
    exact ⟨u, w, rfl, c _ H H0 (Gr.refl ex) (rep_int.mpr rfl)⟩⟩) hg (he := h1) (hpl := hpl)
/-! ### if, and, or -/
theorem y_if {q : Bool} (h : XT X F c (δ n) q) (h1 : q = true → YE X F a δ i n P k) (h2 : q = false → YE X F b δ i n P k) : YE X F (.IfExp c a b pos) δ i n P k := by
  cases q with
  | true => exact PE.imp (pe_ifExp h (h1 rfl) pe_never) fun σ H Q ⟨H0, S, c⟩ => ⟨H0, S, fun H' H0' g => ⟨H0', S.gr g, fun v H'' H0'' x n' q1 p1 g' S' r => c v H'' H0'' x n' q1 p1 ((g.y).trans g') S' r⟩⟩
  | false => exact PE.imp (pe_ifExp h pe_never (h2 rfl)) fun σ H Q ⟨H0, S, c⟩ => ⟨H0, S, fun H' H0' g => ⟨H0', S.gr g, fun v H'' H0'' x n' q1 p1 g' S' r => c v H'' H0'' x n' q1 p1 ((g.y).trans g') S' r⟩⟩
theorem y_ifY (h : YT X F c δ i n k1) (h1 : ∀ n1, n1 ≤ k1 → YE X F a δ i n1 P k) (h2 : ∀ n1, n1 ≤ k1 → YE X F b δ i n1 P k) : YE X F (.IfExp c a b pos) δ i n P k :=
  PE.imp (pe_ifExp h (any_ye (F := F)) (any_ye (F := F))) fun σ H Q ⟨H0, S, c⟩ => ⟨H0, S, fun q H' H0' n1 q1 g S' => by
    cases q with
    | true => exact ⟨δ, i, n1, P, k, h1 n1 q1, H0', S', fun v H'' H0'' x n' q2 p2 g' S'' r => c v H'' H0'' x n' q2 p2 (g.trans g') S'' r⟩
    | false => exact ⟨δ, i, n1, P, k, h2 n1 q1, H0', S', fun v H'' H0'' x n' q2 p2 g' S'' r => c v H'' H0'' x n' q2 p2 (g.trans g') S'' r⟩⟩
theorem y_or {q : Bool} (h : XE X F a (δ n) (.bl q)) (hk : n ≤ k) (h2 : q = false → YE X F (.BoolOp .Or (b :: es) pos) δ i n BP k) : YE X F (.BoolOp .Or (a :: b :: es) pos) δ i n BP k := by
  cases q with
  | true => exact PE.imp (pe_or h pe_never) fun σ H Q ⟨H0, S, c⟩ => ⟨H0, S, fun v H' H0' g r => ⟨true, rep_bl.mp r, c _ H' H0' (.bl true) n hk ⟨_, rfl⟩ g.y (S.gr g) (rep_bl.mpr rfl)⟩⟩
  | false => exact PE.imp (pe_or h (h2 rfl)) fun σ H Q ⟨H0, S, c⟩ => ⟨H0, S, fun v H' H0' g r => ⟨false, rep_bl.mp r, H0', S.gr g, fun v H'' H0'' x n' q1 p1 g' S' r => c v H'' H0'' x n' q1 p1 ((g.y).trans g') S' r⟩⟩
theorem y_or1 (h : YE X F a δ i n P k) : YE X F (.BoolOp .Or [a] pos) δ i n P k := pe_one h
theorem yw_and {q : Bool} (h : XT X F a (δ n) q) (hk : n ≤ k) (h2 : q = true → YW X F (.BoolOp .And (b :: es) pos) δ i n k) : YW X F (.BoolOp .And (a :: b :: es) pos) δ i n k := by
  cases q with
  | true => exact PW.imp (pw_and h (h2 rfl)) fun σ H Q ⟨H0, S, c⟩ => ⟨H0, S, fun H' H0' g => ⟨H0', S.gr g, fun q H'' H0'' n' q1 g' S' => c q H'' H0'' n' q1 ((g.y).trans g') S'⟩⟩
  | false => exact PW.imp (pw_and h pw_never) fun σ H Q ⟨H0, S, c⟩ => ⟨H0, S, fun H' H0' g => c false H' H0' n hk g.y (S.gr g)⟩
theorem yw_and1 (h : YT X F a δ i n k) : YW X F (.BoolOp .And [a] pos) δ i n k := pw_and1 h
theorem YW.t (h : YW X F a δ i n k) : YT X F a δ i n k := PW.pt h
/-! ### calls -/
def FSpY (T : Addr) (pre : Nat → List D → (D → Prop) → Nat → Prop) : Sp := fun vs H Q _ => ∃ (Z : Hp) (ds : List D) (d c : Addr) (n : Nat) (m n0 : Int) (us : List V) (P : D → Prop) (k : Nat), vs = .ref d :: us ∧ H d = some (.dK (dKvs c m n0)) ∧ 0 ≤ m ∧ m < 2147483587 ∧ 0 ≤ n0 ∧ n0 ≤ n ∧
  H c = some (.ext (cellsR c)) ∧ Z d = none ∧ Same Z H ∧ Reps T Z ds us ∧ pre n ds P k ∧ ∀ v H' Z' x (m' n1 : Int) (n' : Nat), (∀ b o, b ≠ d → H b = some o → H' b = some o) → H' d = some (.dK (dKvs c m' n1)) → 0 ≤ m' → m' < 2147483587 → 0 ≤ n1 → n1 ≤ n' → n' ≤ k → P x →
    Same Z Z' → Same Z' H' → (∀ b o, Z' b = some o → Z b = some o ∨ b = d ∨ H b = none) → Z' d = none → Rep T Z' x v → Q v H'
theorem y_call {f dk : Str} {pd : Pos} {kk : Nat} {ps : List Str} {d c : Addr} {pre : Nat → List D → (D → Prop) → Nat → Prop} {ds : List D} (K : DkAt δ i d c) (G : Fn X.prog X.w X.K X.mg X.base f kk ps (FSpY F.T pre)) (hr : Room kk X.A) (ha : XA X F es (δ n) ds) (hp : pre n ds P k)
    (hN : X.N[i]? = some dk := by rfl) (hv : Vis X.env.scope dk := by first | exact Or.inl rfl | exact Or.inr (Or.inl rfl) | exact Or.inr (Or.inr rfl)) (hd : (dk == ("__debug__" : Str)) = false := by decide) (hcd : (dk == ("__classdict__" : Str)) = false := by decide)
    (hg : Gl X f := by rfl) (hdb : (f == ("__debug__" : Str)) = false := by decide) (he : starEach (.Name dk pd :: es) X.env = (false, eval (.Name dk pd) X.env) :: starEach es X.env := by rfl) (hpl : (backTo pos (starEach es X.env)).any (·.1) = false := by rfl) :
    YE X F (.Call (.Name f p) (.Name dk pd :: es) [] pos) δ i n P k := by
  obtain ⟨fa, fd, hm, hk, hb, hF⟩ := G
  refine PE.imp (pe_call hF hr hg hm hk hb .nil (E := E0) pass0 (pa_cons (pe_var hN hv hd hcd) ha he) hdb he hpl) fun σ H Q ⟨H0, S, q⟩ => ?_
  obtain ⟨d', ed, _, _, ed2, hBc, _⟩ := S.own i _ (K.at_ n) rfl
  subst ed2
  refine ⟨.ref d', ed, H0, S, fun us H1 H01 g r => ?_⟩
  show FSpY F.T pre ((.ref d' :: us) ++ []) H1 Q E0
  rw [List.append_nil]
  have S1 := S.gr g
  obtain ⟨d2, ed', h0d, hbd, ed3, _, m, n0, eH, m0, m1, z0, z1⟩ := S1.own i _ (K.at_ n) rfl
  subst ed3
  refine ⟨H01, ds, d2, c, n, m, n0, us, P, k, rfl, eH, m0, m1, z0, z1, S1.bb _ _ hBc, h0d, S1.ex, r, hp, fun v H' Z' x m' n1 n' keep eH' q1 q2 q3 q4 q5 px s0 ex nw zd rv => ?_⟩
  have g2 : GrY σ i H01 H1 Z' H' := ⟨fun b o ne e => keep b o (fun z => by subst z; exact ne ed) e, s0, ex, fun b o e => by
    rcases nw b o e with z | z | z
    · exact .inl z
    · subst z; exact .inr (.inl ed)
    · exact .inr (.inr z)⟩
  have S2 := S1.deck (K.at_ n) ed keep eH' q1 q2 q3 q4 s0 ex nw zd
  rw [K.set_] at S2
  exact q v H' Z' x n' q5 px ((g.y).trans g2) S2 rv
/-! ### statements -/
theorem hs_setY (j : Nat) {nm : Str} {p2 : Pos} (hN : X.N.Nodup) (he : YE X F e δ i n P k) (h : ∀ x n', P x → n' ≤ k → Φ.nx ((δ n').set j (.d x))) (hi : X.N[j]? = some nm := by rfl) (hx : Loc X.env.scope nm := by first | exact Or.inl rfl | exact Or.inr rfl) (hs : swapsWith e (some (.Name nm p2)) pos.line X.env = pure false := by rfl) (hf : X.fn nm = true ∨ X.env.scope.names.lookup nm = some .local := by first | exact .inl rfl | exact .inr rfl) :
    HS X F (.Assign [.Name nm p2] e pos) (δ n) Φ := PS.imp (ps_set hN hi hx he hs hf) fun E σ H ⟨H0, S, c⟩ => ⟨H0, S, fun v H' H0' x n' q1 px g S' r => c.nx _ H' H0' _ g.s0 (S'.set j r) (h x n' px q1)⟩
theorem hs_appendY (j : Nat) {nm : Str} {p1 p2 p3 : Pos} {xs : List D} (he : YE X F e δ i n P k) (hl : ∀ n', (δ n')[j]? = some (.L xs)) (hz : xs.length ≤ 1000000) (h : ∀ x n', P x → n' ≤ k → Φ.nx ((δ n').set j (.L (xs ++ [x])))) (hN : X.N[j]? = some nm := by rfl) (hv : Vis X.env.scope nm := by first | exact Or.inl rfl | exact Or.inr (Or.inl rfl) | exact Or.inr (Or.inr rfl))
    (hd : (nm == ("__debug__" : Str)) = false := by decide) (hcd : (nm == ("__classdict__" : Str)) = false := by decide)
    (hq : ∀ t, PE X e t → PE X (.Call (.Attribute (.Name nm p1) "append" p2) [e] [] p3) (tBM X.K "list" rAppend (tVar j) (tCons t tNil)) := by exact fun _ h => pe_bm PySem.F.plainAttrs_list PySem.F.slot_list_append PySem.F.type_list_append mt_append (pe_var (by rfl) (by first | exact Or.inl rfl | exact Or.inr (Or.inl rfl) | exact Or.inr (Or.inr rfl)) (by decide) (by decide)) (pa_cons h pa_nil))
    (hs : swapsWith (.Call (.Attribute (.Name nm p1) "append" p2) [e] [] p3) none pos.line X.env = pure false := by rfl) :
    HS X F (.Expr (.Call (.Attribute (.Name nm p1) "append" p2) [e] [] p3) pos) (δ n) Φ := by
  refine PS.imp (ps_expr (hq _ he) hs) fun E σ H ⟨H0, S, c⟩ => ?_
  obtain ⟨q, eq, h0, hb, vs, e1, r1⟩ := S.own j _ (hl n) rfl
  refine ⟨.ref q, eq, .inl ⟨rfl, vs, SqL.of e1⟩, H0, S, fun v H' H0' x n' q1 px g S' r => ?_⟩
  obtain ⟨q', eq', h0', hb', us, e2, r2⟩ := S'.own j _ (hl n') rfl
  rw [eq] at eq'; cases eq'
  have l2 := r2.length
  refine ⟨q, us, v, rfl, rfl, e2, by rw [sizeLine_eq]; omega, ?_⟩
  exact c.nx σ _ H0' _ g.s0 (S'.mutate (l' := .L (xs ++ [x])) (hl n') rfl eq rfl ⟨_, upd_same, r2.append (reps_cons r reps_nil)⟩) (h x n' px q1)
/-- statements that hand back a datum and leave a state -/
def tSY (F : Fm) (δ : List LV) (R : D → List LV → Prop) : TS := fun E σ H => ∃ H0, SRep F H0 σ H δ ∧ ∀ v σ' H' H0' δ' x, Same H0 H0' → SRep F H0' σ' H' δ' → Rep F.T H0' x v → R x δ' → E.rt v H'
abbrev HSY (X : Cx) (F : Fm) (sts : List Stmt) (δ : List LV) (R : D → List LV → Prop) : Prop := PSs X sts (tSY F δ R)
def tAnySY (X : Cx) (F : Fm) (sts : List Stmt) : TS := fun E σ H => ∃ δ R, HSY X F sts δ R ∧ tSY F δ R E σ H
theorem any_sy {sts : List Stmt} : PSs X sts (tAnySY X F sts) := ⟨fun pins s σ H E I ⟨δ, R, h, q⟩ => h.run pins s σ H E I q⟩
theorem hy_cons {st : Stmt} {rest : List Stmt} {δ : List LV} {R : D → List LV → Prop} (M : List LV → Prop) (h : HS X F st δ { nx := M, rt := fun _ => False }) (k : ∀ δ', M δ' → HSY X F rest δ' R) : HSY X F (st :: rest) δ R :=
  PSs.imp (pss_cons h (any_sy (F := F))) fun E σ H ⟨H0, S, c⟩ => ⟨H0, S, ⟨fun σ' H' H0' δ' s S' m => ⟨δ', R, k δ' m, H0', S', fun v σ'' H'' H0'' δ'' x s' => c v σ'' H'' H0'' δ'' x (s.trans s')⟩, fun _ _ _ _ _ _ _ _ _ z => z.elim, fun _ _ _ _ _ _ z => z.elim, fun _ _ _ _ _ _ z => z.elim⟩⟩
theorem hy_seq {st : Stmt} {rest : List Stmt} {δ : List LV} {R : D → List LV → Prop} (δ' : List LV) (h : ∀ Φ' : DE, Φ'.nx δ' → HS X F st δ Φ') (k : HSY X F rest δ' R) : HSY X F (st :: rest) δ R := hy_cons (fun d => d = δ') (h _ rfl) fun d e => by cases e; exact k
theorem hy_weak {rest : List Stmt} {δ : List LV} {R : D → List LV → Prop} (δ' : List LV) (h : HSY X F rest δ' R) (l : Le δ' δ) : HSY X F rest δ R := PSs.imp h fun E σ H ⟨H0, S, k⟩ => ⟨H0, S.weak l, k⟩
theorem hy_drop {rest : List Stmt} {δ : List LV} {R : D → List LV → Prop} (j : Nat) (h : HSY X F rest (δ.set j .un) R) : HSY X F rest δ R := hy_weak _ h (Le.set_un δ j)
theorem hy_frL {rest : List Stmt} {δ : List LV} {R : D → List LV → Prop} (j : Nat) {xs : List D} (h : HSY X F rest (δ.set j (.d (.lst xs))) R) (hi : δ[j]? = some (.L xs) := by rfl) : HSY X F rest δ R :=
  PSs.imp h fun E σ H ⟨H0, S, k⟩ => by
    obtain ⟨H0', s0, S'⟩ := S.freeze hi rfl ⟨fun _ z => (by cases z), fun _ _ z => (by cases z), fun _ _ _ z => (by cases z)⟩
    exact ⟨H0', S', fun v σ' H' H0'' δ' x s => k v σ' H' H0'' δ' x (s0.trans s)⟩
theorem hy_ret {R : D → List LV → Prop} (he : YE X F e δ i n P k) (h : ∀ x n', P x → n' ≤ k → R x (δ n')) : HSY X F [.Return (some e) pos] (δ n) R :=
  pss_one (PS.imp (ps_ret he) fun E σ H ⟨H0, S, c⟩ => ⟨H0, S, fun v H' H0' x n' q1 px g S' r => c v σ H' H0' (δ n') x g.s0 S' r (h x n' px q1)⟩)
end
/-! ### a def that draws keeps its promise -/
section
variable {P : Program} {w : World} {K : PySem.W.Frag} {mg : Str → Option Value} {base : Heap} {n qual : Str} {params : Arguments} {body : List Stmt} {scope : Scope} {f : Addr} {fd : FuncData} {N ps : List Str} {k : Nat} {T : Addr} {pre : Nat → List D → (D → Prop) → Nat → Prop}
theorem fn_okY (F : FunD K n qual params body scope [] [] f fd) (S : FnScope N ps scope) (hp : ∀ j ds R m, pre j ds R m → ds.length + 1 = ps.length)
    (h : ∀ (cdv : Value) (A : Around) (outer : List Env) (s : Shared) (H : Hp) (E : XK) (B Z : Hp) (d c : Addr) (j : Nat) (ds : List D) (R : D → Prop) (m : Nat), pre j ds R m → Room k (cxF P w K mg base N qual scope f cdv A outer s H E).A →
      HSY (cxF P w K mg base N qual scope f cdv A outer s H E) ⟨T, P, w, B, Z⟩ body (.K d c j :: begun (N.drop 1) ds) (fun x δ => ∃ j', δ[0]? = some (.K d c j') ∧ j' ≤ m ∧ R x)) :
    FnOk P w K mg base CX0 (k + 1) f fd ps (FSpY T pre) := by
  refine F.ok S (fun vs H Q E ⟨Z, ds, d, c, j, m, n0, us, R, kk, e, _, _, _, _, _, _, _, _, r, q, _⟩ => by rw [e, List.length_cons, r.length]; exact hp j ds R kk q) fun cdv A outer s H vs Q E hr hsp => ?_
  obtain ⟨Z, ds, d, c, j, m, n0, us, R, kk, rfl, hd, m0, m1, z0, z1, hc, hZd, hZ, r, q, cc⟩ := hsp
  have l := r.length
  have hl : ps.length ≤ N.length := by have := congrArg List.length S.pre; rw [List.length_take] at this; omega
  have hpl := hp j ds R kk q
  have dc : c ≠ d := fun z => by subst z; rw [hd] at hc; cases hc
  refine ⟨_, PSs.imp ((h cdv A outer s H E (fun b => if b = d then none else H b) Z d c j ds R kk q hr).nox) (fun _ _ _ z => z), Z, ?_, ?_⟩
  · have hs : ∀ i, (L2.start N (.ref d :: us))[i + 1]? = (L2.start (N.drop 1) us)[i]? := fun i => by
      unfold L2.start
      rw [List.map_cons, List.cons_append, List.getElem?_cons_succ, List.length_drop, List.length_cons]
      congr 3
      omega
    have sub : SRep ⟨T, P, w, H, Z⟩ Z (L2.start (N.drop 1) us) H (begun (N.drop 1) ds) := start_ok (F := ⟨T, P, w, H, Z⟩) hZ r (by rw [List.length_drop]; omega)
    have noown : ∀ (j : Nat) (l : LV), (begun (N.drop 1) ds)[j]? = some l → isOwn l = true → False := fun j l hj io => by
      unfold begun at hj
      by_cases q : j < ds.length
      · rw [List.getElem?_append_left (by simpa using q), List.getElem?_map, List.getElem?_eq_getElem q] at hj
        cases hj; cases io
      · rw [List.getElem?_append_right (by simpa using q), List.getElem?_replicate] at hj
        split at hj
        · cases hj; cases io
        · cases hj
    refine ⟨Same.refl _, hZ, fun b o e => ?_, New.refl, ?_, fun i y e => ?_, fun i l e io => ?_, fun i j l m a e1 o1 e2 o2 _ _ => ?_⟩
    · have e : (if b = d then none else H b) = some o := e
      by_cases z : b = d
      · rw [if_pos z] at e; cases e
      · rw [if_neg z] at e; exact e
    · unfold begun L2.start
      simp only [List.length_cons, List.length_append, List.length_map, List.length_replicate, List.length_drop]
      omega
    · cases i with
      | zero => simp at e
      | succ i =>
        rw [hs]
        exact sub.dat i y (by simpa using e)
    · cases i with
      | zero =>
        have e : LV.K d c j = l := by simpa using e
        subst e
        exact ⟨d, rfl, hZd, if_pos rfl, rfl, (if_neg dc).trans hc, m, n0, hd, m0, m1, z0, z1⟩
      | succ i => exact (noown i l (by simpa using e) io).elim
    · cases i with
      | zero =>
        cases j with
        | zero => rfl
        | succ j => exact (noown j m (by simpa using e2) o2).elim
      | succ i => exact (noown i l (by simpa using e1) o1).elim
  · intro v σ' H' H0' δ' y _ S' r' ⟨j', e0, hj', py⟩
    obtain ⟨a, ea, h0, hb, ead, hBc, m', n1, e1, q1, q2, q3, q4⟩ := S'.own 0 _ e0 rfl
    subst ead
    exact cc v H' H0' y m' n1 j' (fun b o ne e => S'.bb b o (by show (if b = a then none else H b) = some o; rw [if_neg ne]; exact e)) e1 q1 q2 q3 q4 hj' py S'.zb S'.ex (fun b o e => by
      rcases S'.fr b o e with z | z
      · exact .inl z
      · have z : (if b = a then none else H b) = none := z
        by_cases y : b = a
        · exact .inr (.inl y)
        · rw [if_neg y] at z; exact .inr (.inr z)) h0 r'
end
end Dl
end
section
set_option Elab.async false
set_option linter.all false
set_option maxRecDepth 100000
set_option maxHeartbeats 2000000
/-! Comprehensions that draw. -/
namespace Dl
open PySem PySem.Spec PyProof.Rows L2
section
variable {F : Fm} {H0 H H0' H' H1 H01 : Hp} {σ σ' : L2.St} {i : Nat}
theorem GrY.slot (h : σ'[i]? = σ[i]?) (g : GrY σ i H0 H H0' H') : GrY σ' i H0 H H0' H' := ⟨fun b o ne e => g.s b o (by rw [← h]; exact ne) e, g.s0, g.ex, fun b o e => by rw [h]; exact g.nw b o e⟩
theorem GrY.app {p : Addr} {o : HO} (g : GrY σ i H0 H H0' H') (h : H p = none) (h0 : H0' p = none) : GrY σ i H0 H H0' (upd H' p o) :=
  ⟨fun b u ne e => by rw [upd_ne (ne_of_none e h)]; exact g.s b u ne e, g.s0, same_mut g.ex h0, g.nw⟩
theorem GrY.add {p : Addr} {o : HO} (g : GrY σ i H0 H H0' H') (h : H p = none) (h0 : H0' p = none) (hv : H' p = some o) : GrY σ i H0 H (upd H0' p o) H' :=
  ⟨g.s, g.s0.trans (same_new h0), fun b u e => by
    by_cases q : b = p
    · subst q; rw [upd_same] at e; cases e; exact hv
    · rw [upd_ne q] at e; exact g.ex b u e, fun b u e => by
    by_cases q : b = p
    · subst q; exact .inr (.inr h)
    · rw [upd_ne q] at e; exact g.nw b u e⟩
end
section
variable {X : Cx} {F : Fm} {δ : Nat → List LV} {a b e o tg iter elt : Expr} {es : List Expr} {x y z : D} {pos p p2 : Pos} {σ : L2.St} {H : Hp} {i n k k0 kk L : Nat} {d c : Addr} {Φ : DE} {P Pe : D → Prop} {XP : List D → Prop} {t : Tgt} {own : List Nat} {scope : Scope}
def tAnyEY (X : Cx) (F : Fm) (e : Expr) (scope : Scope) : TE := fun σ H Q => ∃ δ i n P k, (∀ (s : Shared) (H : Hp) (C : Addr) (cl : List (Str × Addr)) (fp : List Addr), PE (X.blk s H scope (compEnvC scope cl C X.env) fp) e (tY F δ i n P k)) ∧ tY F δ i n P k σ H Q
theorem any_ey : ∀ (s : Shared) (H : Hp) (C : Addr) (cl : List (Str × Addr)) (fp : List Addr), PE (X.blk s H scope (compEnvC scope cl C X.env) fp) e (tAnyEY X F e scope) :=
  fun s H C cl fp => ⟨fun pins s1 σ H1 Q I ⟨δ, i, n, P, k, h, q⟩ => (h s H C cl fp).run pins s1 σ H1 Q I q⟩
def tYL (F : Fm) (δ : Nat → List LV) (i n : Nat) (XP : List D → Prop) (Pe : D → Prop) (k : Nat) : TE := fun σ H Q => ∃ H0, SRep F H0 σ H (δ n) ∧ ∀ p vs ys xs H' H0' n', n' ≤ k → XP xs → ys.length = xs.length → (∀ y ∈ ys, Pe y) → GrY σ i H0 H H0' H' → SRep F H0' σ H' (δ n') →
  H p = none → H0' p = none → F.B p = none → H' p = some (.lst vs) → Reps F.T H0' ys vs → (∀ (j : Nat) (l : LV), (δ n')[j]? = some l → isOwn l = true → σ[j]? ≠ some (some (V.ref p))) → Q (.ref p) H'
theorem ylc_any (K : DkAt δ i d c) (hu : ∀ n, unAll (δ n) own = true) (hsl : ∀ i ∈ t.slots, i ∈ own) (hL : ∀ xs, XP xs → xs.length ≤ L) (hL1 : L ≤ 1000000)
    (hg : ∀ (s : Shared) (H : Hp) (C : Addr) (cl : List (Str × Addr)) (fp : List Addr), XG (X.blk s H scope (compEnvC scope cl C X.env) fp) F tg t)
    (hx : ∀ xs, XP xs → ∀ x ∈ xs, ∃ δx : Nat → List LV, (∀ n, t.asg x (δ n) = some (δx n)) ∧ DkAt δx i d c ∧ ∀ n1, n1 + kk ≤ k0 + L * kk → ∀ (s : Shared) (H : Hp) (C : Addr) (cl : List (Str × Addr)) (fp : List Addr), YE (X.blk s H scope (compEnvC scope cl C X.env) fp) F elt δx i n1 Pe (n1 + kk)) :
    ∀ σ H Q, tYL F δ i n XP Pe (k0 + L * kk) σ H Q → tLc (tYI F δ i n XP k0) (tAnyG X F tg scope) (tAnyT X F [] scope) (tAnyEY X F elt scope) own σ H Q := by
  rintro σ H Q ⟨H0, S, q⟩
  refine ⟨H0, S, fun J H1 H01 xs n1 hn1 hxs g1 S1 Y Dl hD => ?_⟩
  have hz := hL xs hxs
  have S1w := S1.wiped (hu n1)
  have noD : ∀ (σ' : L2.St), SRep F H01 σ' H1 (δ n1) → ∀ (m j : Nat) (l : LV), (δ m)[j]? = some l → isOwn l = true → σ'[j]? ≠ some (some (V.ref Dl)) := fun σ' S' m j l e io ew => by
    have : ∃ l', (δ n1)[j]? = some l' ∧ isOwn l' = true := by
      by_cases z : j = i
      · subst z; exact ⟨_, K.at_ n1, rfl⟩
      · rw [← K.set_ n1 m, List.getElem?_set_ne (Ne.symm z)] at e; exact ⟨l, e, io⟩
    obtain ⟨l', e', io'⟩ := this
    obtain ⟨a, ea, _, _, o⟩ := S'.own j l' e' io'
    rw [ew] at ea; cases ea
    obtain ⟨ob, hob⟩ := o.some
    rw [hD] at hob; cases hob
  have hBD : F.B Dl = none := S1.bb.free hD
  have hσ : σ[i]? = some (some (V.ref d)) := by
    obtain ⟨a, ea, _, _, ed, _⟩ := S1.own i _ (K.at_ n1) rfl
    rw [ed] at ea; exact ea
  have hH : H Dl = none := by
    cases w : H Dl with
    | none => rfl
    | some u =>
      by_cases z : σ[i]? = some (some (V.ref Dl))
      · exact absurd z (noD σ S1 n1 i _ (K.at_ n1) rfl)
      · have := g1.s _ _ z w
        rw [hD] at this; cases this
  have gl : Gr H01 H1 H01 (upd H1 Dl (.lst [])) := Gr.laid g1.ex hD
  refine ⟨fun j m H2 => m = xs.length - j ∧ j ≤ xs.length ∧ ∃ H02 n2 acc vs, n2 ≤ k0 + j * kk ∧ GrY σ i H01 H1 H02 H2 ∧ SRep F H02 (wipe σ own) H2 (δ n2) ∧ H02 Dl = none ∧ H2 Dl = some (.lst vs) ∧ Reps F.T H02 acc vs ∧ acc.length = j ∧ ∀ y ∈ acc, Pe y,
    ⟨xs.length, by simp, Nat.zero_le _, H01, n1, [], [], by omega, gl.y, S1w.gr gl, g1.ex.free hD, upd_same, reps_nil, rfl, by simp⟩, ?_⟩
  rintro j m H2 ⟨rfl, hj, H02, n2, acc, vs, hn2, g2, S2, hD0, hDl, rs, la, pa⟩
  have sY : Same H01 H2 := g2.s0.trans g2.ex
  by_cases hlt : j < xs.length
  · have go := ((Y j H2 sY).1 hlt).1
    have hmul : (j + 1) * kk ≤ L * kk := Nat.mul_le_mul_right kk (by omega)
    have hmul2 : (j + 1) * kk = j * kk + kk := Nat.succ_mul j kk
    refine .inr ⟨go, fun H3 => ∃ H02 n2 acc vs, n2 ≤ k0 + (j + 1) * kk ∧ GrY σ i H01 H1 H02 H3 ∧ SRep F H02 (wipe σ own) H3 (δ n2) ∧ H02 Dl = none ∧ H3 Dl = some (.lst vs) ∧ Reps F.T H02 acc vs ∧ acc.length = j + 1 ∧ ∀ y ∈ acc, Pe y, fun H3 n => ⟨xs.length - (j + 1), by omega, rfl, hlt, n⟩, fun v H3 hy => ?_⟩
    have hxi : xs[j]? = some xs[j] := List.getElem?_eq_getElem hlt
    have hmem : xs[j] ∈ xs := List.getElem_mem hlt
    obtain ⟨δx, ha, Kx, he⟩ := hx xs hxs xs[j] hmem
    obtain ⟨H03, g3, r3, hD3, hDl3⟩ := lc_item Y g2.s0 g2.ex hlt hxi hy hD0 hDl
    have S3 := S2.gr g3
    refine ⟨t.slots, δ n2, xs[j], δx n2, fun s H C cl fp => hg s H C cl fp _ _ _ (ha n2), H03, S3, r3, fun us S4 => ⟨wipe_setS hsl, δx n2, true, fun s H C cl fp => ts_nil, H03, S4, fun H5 H05 g5 => ?_⟩⟩
    show tAnyEY X F elt scope _ H5 _
    refine ⟨δx, i, n2, Pe, n2 + kk, he n2 (by omega), H05, S4.gr g5, fun y H6 H06 x6 n6 q6 p6 g6 S6 r6 => ?_⟩
    have hD5 : H5 Dl = some (.lst vs) := g5.s _ _ hDl3
    have hD05 : H05 Dl = none := by
      cases q : H05 Dl with
      | none => rfl
      | some o =>
        rcases g5.nw _ _ q with z | z
        · rw [hD3] at z; cases z
        · rw [hDl3] at z; cases z
    have h4 : (setS t.slots us (wipe σ own))[i]? = some (some (V.ref d)) := by
      obtain ⟨a, ea, _, _, ed, _⟩ := S4.own i _ (Kx.at_ n2) rfl
      rw [ed] at ea; exact ea
    have ne6 : (setS t.slots us (wipe σ own))[i]? ≠ some (some (V.ref Dl)) := fun z => by
      obtain ⟨a, ea, _, _, ed, _, m', n0', eH, _⟩ := S4.own i _ (Kx.at_ n2) rfl
      rw [z] at ea; cases ea
      rw [hDl3] at eH; cases eH
    have hD6 := g6.s _ _ ne6 hD5
    have hD06 : H06 Dl = none := by
      cases q : H06 Dl with
      | none => rfl
      | some o =>
        rcases g6.nw _ _ q with z | z | z
        · rw [hD05] at z; cases z
        · exact absurd z ne6
        · rw [hD5] at z; cases z
    have lv : vs.length = j := by rw [rs.length, la]
    refine ⟨vs, hD6, by rw [sizeLine_eq]; omega, ?_⟩
    have S6b : SRep F H06 (wipe σ own) H6 (δ n6) := S6.back (H0' := H06) (H' := H6) (ha n6) fun j' hj' => unAll_at (hu n6) (hsl j' hj')
    have S7 := S6b.other (o := .lst (vs ++ [y])) hD06 hBD (noD _ S1w n6)
    have g6' : GrY σ i H05 H5 H06 H6 := g6.slot (by rw [hσ, h4])
    exact ⟨H06, n6, acc ++ [x6], _, by omega, ((((g2.trans g3.y).trans g5.y).trans g6')).app hD hD06, S7, hD06, upd_same, (Reps.mono ((g3.s0.trans g5.s0).trans g6.s0) _ _ rs).append (reps_cons r6 reps_nil), by rw [List.length_append, la]; rfl, fun y hy => by
      rcases List.mem_append.mp hy with z | z
      · exact pa y z
      · rw [List.mem_singleton.mp z]; exact p6⟩
  · have e : j = xs.length := by omega
    subst e
    refine .inl ⟨(Y _ H2 sY).2 rfl, ?_⟩
    have hm2 : xs.length * kk ≤ L * kk := Nat.mul_le_mul_right kk hz
    exact q Dl vs acc xs H2 H02 n2 (by omega) hxs la pa (g1.trans g2) (S2.unwiped (hu n2)) hH hD0 hBD hDl rs fun j' l' e' io' => noD σ S1 n2 j' l' e' io'
/-- [elt for tg in iter], a datum -/
theorem y_lc (own : List (Str × Nat)) (t : Tgt) (hN : X.N.Nodup) (K : DkAt δ i d c) (hi : YI X F tg iter δ i n XP k0) (ok : BlkOk X.N X.env.scope scope own) (hL : ∀ xs, XP xs → xs.length ≤ L)
    (hg : ∀ (s : Shared) (H : Hp) (C : Addr) (cl : List (Str × Addr)) (fp : List Addr), XG (X.blk s H scope (compEnvC scope cl C X.env) fp) F tg t)
    (hx : ∀ xs, XP xs → ∀ x ∈ xs, ∃ δx : Nat → List LV, (∀ n, t.asg x (δ n) = some (δx n)) ∧ DkAt δx i d c ∧ ∀ n1, n1 + kk ≤ k0 + L * kk → ∀ (s : Shared) (H : Hp) (C : Addr) (cl : List (Str × Addr)) (fp : List Addr), YE (X.blk s H scope (compEnvC scope cl C X.env) fp) F elt δx i n1 Pe (n1 + kk))
    (hL1 : L ≤ 1000000 := by decide) (hu : ∀ n, unAll (δ n) (own.map (·.2)) = true := by intro _; rfl) (hsl : ∀ i ∈ t.slots, i ∈ own.map (·.2) := by decide) (hc : X.calm = true := by rfl) (hs : ∀ x, foldedSetIterable iter X.env x = pure x := by intro _; rfl) :
    YE X F (.ListComp elt [⟨tg, iter, [], 0⟩] scope pos) δ i n (fun z => ∃ ys xs, z = .lst ys ∧ XP xs ∧ ys.length = xs.length ∧ ∀ y ∈ ys, Pe y) (k0 + L * kk) :=
  PE.imp (pe_lc (own := own) hc hN hi ok any_g any_t any_ey hs) fun σ H Q ⟨H0, S, k⟩ => ylc_any K hu hsl hL hL1 hg hx σ H Q ⟨H0, S, fun p vs ys xs H' H0' n' hn hX hl hP g S' hH h0 hB hv r no =>
    k (.ref p) H' (upd H0' p (.lst vs)) (.lst ys) n' hn ⟨ys, xs, rfl, hX, hl, hP⟩ (g.add hH h0 hv) (S'.add hv h0 hB no) (rep_lst.mpr ⟨p, vs, rfl, upd_same, Reps.mono (same_new h0) _ _ r⟩)⟩
/-- name = [elt for tg in iter] on one line -/
theorem hs_setLcY (j : Nat) {nm : Str} {cpos : Pos} (own : List (Str × Nat)) (t : Tgt) (hN : X.N.Nodup) (K : DkAt δ i d c) (hi : YI X F tg iter δ i n XP k0) (ok : BlkOk X.N X.env.scope scope own) (hL : ∀ xs, XP xs → xs.length ≤ L)
    (hg : ∀ (s : Shared) (H : Hp) (C : Addr) (cl : List (Str × Addr)) (fp : List Addr), XG (X.blk s H scope (compEnvC scope cl C X.env) fp) F tg t)
    (hx : ∀ xs, XP xs → ∀ x ∈ xs, ∃ δx : Nat → List LV, (∀ n, t.asg x (δ n) = some (δx n)) ∧ DkAt δx i d c ∧ ∀ n1, n1 + kk ≤ k0 + L * kk → ∀ (s : Shared) (H : Hp) (C : Addr) (cl : List (Str × Addr)) (fp : List Addr), YE (X.blk s H scope (compEnvC scope cl C X.env) fp) F elt δx i n1 Pe (n1 + kk))
    (h : ∀ ys xs n', XP xs → ys.length = xs.length → (∀ y ∈ ys, Pe y) → n' ≤ k0 + L * kk → Φ.nx ((δ n').set j (.L ys)))
    (hy : X.N[j]? = some nm := by rfl) (hyl : X.env.scope.names.lookup nm = some .local := by rfl) (hsw : swapsWith (.ListComp elt [⟨tg, iter, [], 0⟩] scope cpos) (some (.Name nm p2)) pos.line X.env = pure true := by exact sw_true rfl rfl rfl (by decide +kernel))
    (hL1 : L ≤ 1000000 := by decide) (hu : ∀ n, unAll (δ n) (own.map (·.2)) = true := by intro _; rfl) (hsl : ∀ i ∈ t.slots, i ∈ own.map (·.2) := by decide) (hc : X.calm = true := by rfl) (hs : ∀ x, foldedSetIterable iter X.env x = pure x := by intro _; rfl) :
    HS X F (.Assign [.Name nm p2] (.ListComp elt [⟨tg, iter, [], 0⟩] scope cpos) pos) (δ n) Φ :=
  PS.imp (ps_setLc (own := own) hc hN hy hyl hsw hi ok any_g any_t any_ey hs) fun E σ H ⟨H0, S, k⟩ => ylc_any K hu hsl hL hL1 hg hx σ H _ ⟨H0, S, fun p vs ys xs H' H0' n' hn hX hl hP g S' hH h0 hB hv r no =>
    k.nx _ H' H0' _ g.s0 (S'.setOwn j (l := .L ys) rfl h0 hB ⟨vs, hv, r⟩ fun j' m e io z => absurd z (no j' m e io)) (h ys xs n' hX hl hP hn)⟩
/-- range(a draw) -/
theorem yi_range {hi : Int} (hm : X.mg "range" = none) (h : YE X F e δ i n (IR 0 hi) k) (h1 : hi ≤ 1000) (hg : Gl X "range" := by rfl) (hs : starEach [e] X.env = [(false, eval e X.env)] := by rfl) : YI X F tg (.Call (.Name "range" p) [e] [] pos) δ i n (fun xs => (xs.length : Int) ≤ hi ∧ ∃ r : Int, xs = upto r) k :=
  PI.imp (pi_range1 hg hm (ya_one (P := fun xs => ∃ r : Int, xs = [.int r] ∧ 0 ≤ r ∧ r ≤ hi) h (fun x ⟨r, e, q⟩ => ⟨r, by rw [e], q⟩) hs) hs) fun σ H R ⟨H0, S, c⟩ => ⟨H0, S, fun vs H' H0' xs n' hn ⟨r, e, r0, r1⟩ g S' rs => by
    subst e
    obtain ⟨v, rfl, q1⟩ := rs.one
    have l : (upto r).length = r.toNat := by unfold upto; simp
    refine ⟨r, by rw [rep_int.mp q1], by omega, by omega, c _ H' H0' (upto r) n' hn ⟨by omega, r, rfl⟩ g S' fun i' H'' s2 => ?_⟩
    refine ⟨fun hi => ⟨show i' < r.toNat by omega, fun v H3 hy x hx => ?_⟩, fun hi => show r.toNat ≤ i' by omega⟩
    obtain ⟨rfl, rfl⟩ := hy
    unfold upto at hx
    rw [List.getElem?_map, List.getElem?_range (by omega)] at hx
    cases hx
    exact .inl ⟨rfl, rep_int.mpr (by simp)⟩⟩
theorem y_join {w : Str} {q : Nat} {p1 p3 : Pos} {PL : List Str → Prop} (ha : YE X F a δ i n (fun z => ∃ zs : List Str, z = .lst (zs.map .str) ∧ PL zs) k) (hz : ∀ zs, PL zs → (zs.map (·.length)).sum + zs.length * w.length ≤ 16777216) (h1 : starEach [a] X.env = (false, eval a X.env) :: starEach [] X.env := by rfl)
    (hb : attributeBase (.Constant (.str w) q p1) "join" X.env (eval (.Constant (.str w) q p1) X.env) = eval (.Constant (.str w) q p1) X.env := by rfl)
    (hf : ((backTo p3 (starEach [a] X.env)).all (fun x => !x.1) && (backToKw p3 (keywordEach [] X.env)).all (fun x => x.1.isSome) && decide (([a] : List Expr).length + ([] : List Keyword).length + (if ([] : List Keyword).isEmpty then 0 else 1) < 30)) = true := by rfl)
    (hl : (p2.endLine == p3.line) = true := by rfl) : YE X F (.Call (.Attribute (.Constant (.str w) q p1) "join" p2) [a] [] p3) δ i n (fun z => ∃ zs, PL zs ∧ z = .str (Txt.join w zs)) k :=
  PE.imp (pe_bm PySem.F.plainAttrs_str PySem.F.slot_str_join PySem.F.type_str_join mt_join pe_str (pa_cons ha pa_nil h1) hb hf hl h1) fun σ H Q ⟨H0, S, kk⟩ => by
    refine ⟨rfl, H0, S, fun v H' H0' x n' hn ⟨zs, e, pz⟩ g S' r => ?_⟩
    subst e
    obtain ⟨q, vs, rfl, e1, rs⟩ := rep_lst.mp r
    have ev : vs = zs.map V.str := reps_strs rs
    subst ev
    exact ⟨w, q, zs, rfl, rfl, .inl (SqL.of (g.ex _ _ e1)), hz zs pz, kk _ H' H0' _ n' hn ⟨zs, pz, rfl⟩ g S' (rep_str.mpr rfl)⟩
end
end Dl
end
section
set_option Elab.async false
set_option linter.all false
set_option maxRecDepth 100000
set_option maxHeartbeats 2000000
/-! The deck itself: walks with a state told in full. -/
namespace Dl
open PySem PySem.Spec PyProof.Rows L2
/-- the deck's state: its cells, the number mixed, the number of draws -/
structure Dst where
  cells : List Int
  m : Int
  n : Int
/-- how the heap holds it; all else of the heap at the entry stands -/
structure Fct (d c : Addr) (Hin : Hp) (S : Dst) (H : Hp) : Prop where
  hd : H d = some (.dK (dKvs c S.m S.n))
  hc : H c = some (.lst (S.cells.map V.int))
  keep : ∀ b o, b ≠ d → b ≠ c → Hin b = some o → H b = some o
section
variable {X : Cx} {d c : Addr} {Hin : Hp} {S S' S'' : Dst} {σ σ' : L2.St} {a b e : Expr} {es : List Expr} {pos p p2 : Pos} {v w : V} {i j : Int} {G : Ends → Prop} {rest sa sb : List Stmt} {st : Stmt}
theorem Fct.new {H : Hp} {q : Addr} {o : HO} (f : Fct d c Hin S H) (h : H q = none) : Fct d c Hin S (upd H q o) :=
  ⟨by rw [upd_ne (ne_of_none f.hd h)]; exact f.hd, by rw [upd_ne (ne_of_none f.hc h)]; exact f.hc, fun b u n1 n2 e => by rw [upd_ne (ne_of_none (f.keep b u n1 n2 e) h)]; exact f.keep b u n1 n2 e⟩
theorem Fct.ne {H : Hp} (f : Fct d c Hin S H) : d ≠ c := ne_of f.hd f.hc (by intro z; cases z)
theorem Fct.put {H : Hp} {m n : Int} (f : Fct d c Hin S H) : Fct d c Hin ⟨S.cells, m, n⟩ (upd H d (.dK (dKvs c m n))) :=
  ⟨upd_same, by rw [upd_ne (Ne.symm f.ne)]; exact f.hc, fun b u n1 n2 e => by rw [upd_ne n1]; exact f.keep b u n1 n2 e⟩
theorem Fct.list {H : Hp} {cs : List Int} (f : Fct d c Hin S H) : Fct d c Hin ⟨cs, S.m, S.n⟩ (upd H c (.lst (cs.map V.int))) :=
  ⟨by rw [upd_ne f.ne]; exact f.hd, upd_same, fun b u n1 n2 e => by rw [upd_ne n2]; exact f.keep b u n1 n2 e⟩
/-- the expression is v, and the deck's state then S' -/
def tV' (d c : Addr) (Hin : Hp) (σ : L2.St) (S : Dst) (v : V) (S' : Dst) : TE := fun σ' H Q => σ' = σ ∧ Fct d c Hin S H ∧ ∀ H', Fct d c Hin S' H' → Q v H'
abbrev EV (X : Cx) (e : Expr) (d c : Addr) (Hin : Hp) (σ : L2.St) (S : Dst) (v : V) (S' : Dst) : Prop := PE X e (tV' d c Hin σ S v S')
theorem v_var (k : Nat) {x : Str} (h : σ[k]? = some (some v)) (hN : X.N[k]? = some x := by rfl) (hv : Vis X.env.scope x := by first | exact Or.inl rfl | exact Or.inr (Or.inl rfl) | exact Or.inr (Or.inr rfl)) (hd : (x == ("__debug__" : Str)) = false := by decide) (hcd : (x == ("__classdict__" : Str)) = false := by decide) :
    EV X (.Name x pos) d c Hin σ S v S := PE.imp (pe_var hN hv hd hcd) fun σ' H Q ⟨e, f, k'⟩ => ⟨v, by rw [e]; exact h, k' H f⟩
theorem v_int {k : Nat} : EV X (.Constant (.int i) k pos) d c Hin σ S (.int i) S := PE.imp pe_int fun σ' H Q ⟨e, f, k'⟩ => k' H f
theorem v_str {k : Nat} {x : Str} : EV X (.Constant (.str x) k pos) d c Hin σ S (.str x) S := PE.imp pe_str fun σ' H Q ⟨e, f, k'⟩ => k' H f
theorem v_op {op : Operator} {C : Int → Int → Prop} {g : Int → Int → V} (ho : OpR X (binaryOp op) (rI C g)) (ha : EV X a d c Hin σ S (.int i) S) (hb : EV X b d c Hin σ S (.int j) S) (hc : C i j) : EV X (.BinOp a op b pos) d c Hin σ S (g i j) S :=
  PE.imp (pe_op ho ha hb) fun σ' H Q ⟨e, f, k'⟩ => ⟨e, f, fun H1 f1 => ⟨e, f1, fun H2 f2 => ⟨i, j, rfl, rfl, hc, k' H2 f2⟩⟩⟩
theorem v_op0 {op : Operator} {g : Int → Int → V} (ho : OpR X (binaryOp op) (rI0 g)) (ha : EV X a d c Hin σ S (.int i) S) (hb : EV X b d c Hin σ S (.int j) S) : EV X (.BinOp a op b pos) d c Hin σ S (g i j) S :=
  PE.imp (pe_op ho ha hb) fun σ' H Q ⟨e, f, k'⟩ => ⟨e, f, fun H1 f1 => ⟨e, f1, fun H2 f2 => ⟨i, j, rfl, rfl, k' H2 f2⟩⟩⟩
theorem v_callI (hm : X.mg "int" = none) (ha : EV X a d c Hin σ S (.int i) S) (hg : Gl X "int" := by rfl) (h1 : starEach [a] X.env = (false, eval a X.env) :: starEach [] X.env := by rfl) : EV X (.Call (.Name "int" p) [a] [] pos) d c Hin σ S (.int i) S :=
  PE.imp (pe_callTy call_int1 hg hm (by decide +kernel) (pa_cons ha pa_nil h1) (by decide) (by decide) h1) fun σ' H Q ⟨e, f, k'⟩ => ⟨e, f, fun H1 f1 => .inl ⟨i, rfl, k' H1 f1⟩⟩
/-- deck[word] -/
theorem v_dget {k : Key} (hu : X.A.units + 1 < cLine) (ha : EV X a d c Hin σ S (.ref d) S) (hb : EV X b d c Hin σ S (kV k) S) (h : valV (dKvs c S.m S.n) k = some v) (hs : NoSl b := by exact fun _ _ => rfl) : EV X (.Subscript a b pos) d c Hin σ S v S :=
  PE.imp (pe_dget hu ha hb hs) fun σ' H Q ⟨e, f, k'⟩ => ⟨e, f, fun H1 f1 => ⟨e, f1, fun H2 f2 => ⟨d, v, rfl, by rw [← h]; exact DGet.k f2.hd, k' H2 f2⟩⟩⟩
/-! statements -/
def tRD (d c : Addr) (Hin : Hp) (σ : L2.St) (S : Dst) (G : Ends → Prop) : TS := fun E σ' H => σ' = σ ∧ Fct d c Hin S H ∧ G E
abbrev RSs (X : Cx) (sts : List Stmt) (d c : Addr) (Hin : Hp) (σ : L2.St) (S : Dst) (G : Ends → Prop) : Prop := PSs X sts (tRD d c Hin σ S G)
abbrev RS (X : Cx) (st : Stmt) (d c : Addr) (Hin : Hp) (σ : L2.St) (S : Dst) (σ' : L2.St) (S' : Dst) : Prop := PS X st (tRD d c Hin σ S fun E => ∀ H', Fct d c Hin S' H' → E.nx σ' H')
theorem rs_seq (σ' : L2.St) (S' : Dst) (h : RS X st d c Hin σ S σ' S') (k : RSs X rest d c Hin σ' S' G) : RSs X (st :: rest) d c Hin σ S G :=
  PSs.imp (pss_cons h k) fun E σ1 H ⟨e, f, g⟩ => ⟨e, f, fun H' f' => ⟨rfl, f', g⟩⟩
theorem rs_set (k : Nat) {x : Str} (hN : X.N.Nodup) (he : EV X e d c Hin σ S v S') (hi : X.N[k]? = some x := by rfl) (hx : Loc X.env.scope x := by first | exact Or.inl rfl | exact Or.inr rfl) (hs : swapsWith e (some (.Name x p2)) pos.line X.env = pure false := by rfl) (hf : X.fn x = true ∨ X.env.scope.names.lookup x = some .local := by first | exact .inl rfl | exact .inr rfl) :
    RS X (.Assign [.Name x p2] e pos) d c Hin σ S (σ.set k (some v)) S' := PS.imp (ps_set hN hi hx he hs hf) fun E σ1 H ⟨e, f, g⟩ => ⟨e, f, fun H' f' => by rw [e]; exact g H' f'⟩
theorem rs_dput {n : Int} (hu : X.A.units + 1 < cLine) (ho : EV X a d c Hin σ S (.ref d) S) (hb : EV X b d c Hin σ S (.str "draws") S) (he : EV X e d c Hin σ S (.int n) S) (hs : swapsWith e (some (.Subscript a b p2)) pos.line X.env = pure false := by rfl) :
    RS X (.Assign [.Subscript a b p2] e pos) d c Hin σ S σ ⟨S.cells, S.m, n⟩ := PS.imp (ps_dput hu ho hb he hs) fun E σ1 H ⟨e, f, g⟩ => ⟨e, f, fun H1 f1 => ⟨e, f1, fun H2 f2 => ⟨e, f2, fun H3 f3 => ⟨d, _, rfl, DPut.k (k := .inr "draws") (v := .int n) f3.hd (by show 3 < 16777216; decide), by
      rw [e]
      refine g _ ?_
      have : putK (dKvs c S.m S.n) (.inr "draws") (.int n) = dKvs c S.m n := by
        unfold putK dKvs
        simp [valV]
        exact ⟨by decide, fun z => absurd z (by decide)⟩
      rw [this]
      exact f3.put⟩⟩⟩⟩
theorem rs_ret (he : EV X e d c Hin σ S v S') (h : ∀ E, G E → ∀ H', Fct d c Hin S' H' → E.rt v H') : RSs X [.Return (some e) pos] d c Hin σ S G :=
  pss_one (PS.imp (ps_ret he) fun E σ1 H ⟨e, f, g⟩ => ⟨e, f, fun H' f' => h E g H' f'⟩)
theorem rs_par (k l : Nat) {x y : Str} {px py pt pt2 : Pos} {kt k2 : Nat} (hN : X.N.Nodup) (ha : EV X a d c Hin σ S v S) (hb : EV X b d c Hin σ S w S) (hij : k ≠ l := by decide) (hi : X.N[k]? = some x := by rfl) (hj : X.N[l]? = some y := by rfl) (hx : X.env.scope.names.lookup x = some .local := by rfl) (hy : X.env.scope.names.lookup y = some .local := by rfl)
    (hw : swappedStores [.Tuple [.Name x px, .Name y py] kt pt] (.Tuple [a, b] k2 pt2) X.env = pure (some [x, y]) := by rfl)
    (hs : swapsWithSole [.Tuple [.Name x px, .Name y py] kt pt] (.Tuple [a, b] k2 pt2) pos.line X.env = pure false := by rfl) (hc : X.calm = true := by rfl)
    (h1 : starEach [a, b] X.env = (false, eval a X.env) :: starEach [b] X.env := by rfl) (h2 : starEach [b] X.env = (false, eval b X.env) :: starEach [] X.env := by rfl) :
    RS X (.Assign [.Tuple [.Name x px, .Name y py] kt pt] (.Tuple [a, b] k2 pt2) pos) d c Hin σ S ((σ.set k (some v)).set l (some w)) S :=
  PS.imp (ps_par hc hN hi hj hij hx hy (pa_cons ha (pa_cons hb pa_nil h2) h1) hw hs) fun E σ1 H ⟨e, f, g⟩ => ⟨e, f, fun H1 f1 => ⟨e, f1, fun H2 f2 => ⟨v, w, rfl, by rw [e]; exact g H2 f2⟩⟩⟩
/-- if deck["cells"] != [] -/
theorem rt_ne {k : Nat} (hu : X.A.units + 64 < cLine) (ha : EV X a d c Hin σ S (.ref c) S) (hm : behindInMarks .NotEq (.List [] p) = false := by first | exact nomark _ | with_unfolding_all rfl) :
    PT X (.Compare a [.NotEq] [.List [] p] pos) (fun σ' H Q => σ' = σ ∧ Fct d c Hin S H ∧ ∀ H', Fct d c Hin S H' → Q (!S.cells.isEmpty) H') :=
  PT.imp (pt_cmpR (op_neD hu) ha (pe_lst pa_nil) hm) fun σ' H Q ⟨e, f, k'⟩ => ⟨e, f, fun H1 f1 => ⟨by show 0 ≤ 16777216; decide, fun q hq => by
    have f2 := f1.new (o := .lst []) hq
    have h1 : okD 1 (.lst (S.cells.map D.int)) = true := okDs_ints
    have h2 : okD 1 (.lst []) = true := by simp [okD, okDs]
    have r1 : Rep 0 (upd H1 q (.lst [])) (.lst (S.cells.map D.int)) (.ref c) := rep_lst.mpr ⟨c, _, rfl, f2.hc, reps_ints⟩
    have r2 : Rep 0 (upd H1 q (.lst [])) (.lst []) (.ref q) := rep_lst.mpr ⟨q, [], rfl, upd_same, reps_nil⟩
    refine ⟨_, _, dp_of 1 _ _ h1 r1, dp_of 1 _ _ h2 r2, shaped_of h1 (by decide), shaped_of h2 (by decide), _, rfl, ?_⟩
    rw [eqv_nilL]
    cases hcs : S.cells with
    | nil => have := k' _ f2; rw [hcs] at this; exact this
    | cons x xs => have := k' _ f2; rw [hcs] at this; exact this⟩⟩
theorem rt_ge (ha : EV X a d c Hin σ S (.int i) S) (hb : EV X b d c Hin σ S (.int j) S) (hm : behindInMarks .GtE b = false := by first | exact nomark _ | with_unfolding_all rfl) :
    PT X (.Compare a [.GtE] [b] pos) (fun σ' H Q => σ' = σ ∧ Fct d c Hin S H ∧ ∀ H', Fct d c Hin S H' → Q (decide (j ≤ i)) H') :=
  PT.imp (pt_cmpR op_ge ha hb hm) fun σ' H Q ⟨e, f, k'⟩ => ⟨e, f, fun H1 f1 => ⟨e, f1, fun H2 f2 => ⟨i, j, rfl, rfl, _, rfl, k' H2 f2⟩⟩⟩
/-- a suite that hands back, or comes through to σ', S' -/
theorem rs_if {q : Bool} {t : Expr} (hc : PT X t (fun σ' H Q => σ' = σ ∧ Fct d c Hin S H ∧ ∀ H', Fct d c Hin S H' → Q q H')) (h1 : q = true → RSs X sa d c Hin σ S G) (h2 : q = false → RSs X sb d c Hin σ S G) : PS X (.If t sa sb pos) (tRD d c Hin σ S G) := by
  cases q with
  | true => exact PS.imp (ps_if hc (h1 rfl) (u := tNever) pss_never) fun E σ' H ⟨e, f, g⟩ => ⟨e, f, fun H' f' => ⟨e, f', g⟩⟩
  | false => exact PS.imp (ps_if hc (t := tNever) pss_never (h2 rfl)) fun E σ' H ⟨e, f, g⟩ => ⟨e, f, fun H' f' => ⟨e, f', g⟩⟩
def tAnyR (X : Cx) (sts : List Stmt) (d c : Addr) (Hin : Hp) : TS := fun E σ H => ∃ S G, RSs X sts d c Hin σ S G ∧ Fct d c Hin S H ∧ G E
theorem any_r {sts : List Stmt} : PSs X sts (tAnyR X sts d c Hin) := ⟨fun pins s σ H E I ⟨S, G, h, f, g⟩ => h.run pins s σ H E I ⟨rfl, f, g⟩⟩
/-- the rest goes on from wherever the statement comes through -/
theorem rs_cons (M : L2.St → Dst → Prop) (GR : VK → Prop) (h : PS X st (tRD d c Hin σ S fun E => (∀ σ' S', M σ' S' → ∀ H', Fct d c Hin S' H' → E.nx σ' H') ∧ GR E.rt)) (hG : ∀ E, G E → GR E.rt) (k : ∀ σ' S', M σ' S' → RSs X rest d c Hin σ' S' G) : RSs X (st :: rest) d c Hin σ S G :=
  PSs.imp (pss_cons h (any_r (d := d) (c := c) (Hin := Hin))) fun E σ1 H ⟨e, f, g⟩ => ⟨e, f, fun σ' S' m H' f' => ⟨S', G, k σ' S' m, f', g⟩, hG E g⟩
theorem rs_nil (h : ∀ E, G E → ∀ H', Fct d c Hin S H' → E.nx σ H') : RSs X [] d c Hin σ S G := PSs.imp pss_nil fun E σ1 H ⟨e, f, g⟩ => by rw [e]; exact h E g H f
/-- xs.pop(), xs.append(e) -/
theorem v_pop {apos cpos : Pos} {x : Int} (ha : EV X a d c Hin σ S (.ref c) S) (hx : S.cells[S.cells.length - 1]? = some x) (hbase : attributeBase a "pop" X.env (eval a X.env) = eval a X.env := by rfl) (hline : (apos.endLine == cpos.line) = true := by rfl) : EV X (.Call (.Attribute a "pop" apos) [] [] cpos) d c Hin σ S (.int x) ⟨S.cells.dropLast, S.m, S.n⟩ :=
  PE.imp (pe_bm0 PySem.F.plainAttrs_list PySem.F.slot_list_pop PySem.F.type_list_pop mt_pop ha hbase hline) fun σ' H Q ⟨e, f, k'⟩ => ⟨e, f, fun H1 f1 => ⟨.inl ⟨rfl, _, SqL.of f1.hc⟩, c, S.cells.map V.int, .int x, rfl, rfl, f1.hc, by rw [List.getElem?_map, List.length_map, hx]; rfl, by
    have : (S.cells.map V.int).dropLast = S.cells.dropLast.map V.int := by rw [List.map_dropLast]
    rw [this]
    exact k' _ f1.list⟩⟩
theorem rs_app {apos cpos : Pos} {x : Int} (ha : EV X a d c Hin σ S (.ref c) S) (he : EV X e d c Hin σ S (.int x) S) (hl : S.cells.length ≤ 64) (hbase : attributeBase a "append" X.env (eval a X.env) = eval a X.env := by rfl)
    (hq : ∀ t t', PE X a t → PE X e t' → PE X (.Call (.Attribute a "append" apos) [e] [] cpos) (tBM X.K "list" rAppend t (tCons t' tNil)) := by exact fun _ _ h h' => pe_bm PySem.F.plainAttrs_list PySem.F.slot_list_append PySem.F.type_list_append mt_append h (pa_cons h' pa_nil))
    (hs : swapsWith (.Call (.Attribute a "append" apos) [e] [] cpos) none pos.line X.env = pure false := by rfl) : RS X (.Expr (.Call (.Attribute a "append" apos) [e] [] cpos) pos) d c Hin σ S σ ⟨S.cells ++ [x], S.m, S.n⟩ :=
  PS.imp (ps_expr (hq _ _ ha he) hs) fun E σ' H ⟨e, f, g⟩ => ⟨e, f, fun H1 f1 => ⟨.inl ⟨rfl, _, SqL.of f1.hc⟩, e, f1, fun H2 f2 => ⟨c, S.cells.map V.int, .int x, rfl, rfl, f2.hc, by rw [List.length_map, sizeLine_eq]; omega, by
    have : S.cells.map V.int ++ [V.int x] = (S.cells ++ [x]).map V.int := by rw [List.map_append]; rfl
    rw [this, e]
    exact g _ f2.list⟩⟩⟩
end
/-! the cells told, and hidden again -/
theorem Inv.reobj {X : Cx} {pins : List (Addr × Obj)} {σ : L2.St} {H : Hp} {s : Shared} {a : Addr} {o : HO} (I : Inv X pins σ H s) (mu : Mut (H a)) (he : ∃ q, s.heap.get? a = some q) (new : ObjOk X.prog X.w (upd H a o) s.heap a o) : Inv X pins σ (upd H a o) s :=
  d_write (t' := s.toks) I mu ⟨rfl, fun _ _ => rfl⟩ he new
theorem pss_cells {X : Cx} {sts : List Stmt} {t : TS} {c : Addr} (h : PSs X sts t) : PSs X sts (fun E σ H => H c = some (.ext (cellsR c)) ∧ ∀ cells : List Int, cells.length ≤ 64 → ∃ rt' : VK, t { nx := fun _ _ => False, rt := rt' } σ (upd H c (.lst (cells.map V.int))) ∧
    ∀ v H', rt' v H' → ∃ cells' : List Int, cells'.length ≤ 64 ∧ H' c = some (.lst (cells'.map V.int)) ∧ E.rt v (upd H' c (.ext (cellsR c)))) := by
  refine ⟨fun pins s σ H E I ⟨hc, hall⟩ => ?_⟩
  obtain ⟨⟨cells, its, k, hl, hv, hobj⟩, _⟩ := I.hok c _ hc
  obtain ⟨rt', ht, hback⟩ := hall cells hl
  have I1 : Inv X pins σ (upd H c (.lst (cells.map V.int))) s := Inv.reobj I (by rw [hc]; exact True.intro) ⟨_, hobj⟩ ⟨by rw [List.length_map, sizeLine_eq]; omega, its, k, hv, hobj⟩
  refine thn (h.run pins s σ _ _ I1 ht) fun f s1 r => ?_
  cases f with
  | next => obtain ⟨_, _, _, z⟩ := r; exact z.elim
  | brk => obtain ⟨_, _, _, z⟩ := r; exact z.elim
  | cont => obtain ⟨_, _, _, z⟩ := r; exact z.elim
  | ret u =>
    obtain ⟨v, σ', H', I', rv, q⟩ := r
    obtain ⟨cells', hl', hc', hE⟩ := hback v H' q
    obtain ⟨_, its', k', hv', hobj'⟩ := I'.hok c _ hc'
    refine ⟨v, σ', _, Inv.reobj (o := .ext (cellsR c)) I' (by rw [hc']; exact True.intro) ⟨_, hobj'⟩ ⟨⟨cells', its', k', hl', hv', hobj'⟩, ⟨_, hobj'⟩, fun h1 h2 ⟨a, b, e, x1, x2, x3⟩ k => ⟨a, b, e, x1, x2, k _ x3⟩⟩, rv, hE⟩
end Dl
end
section
set_option Elab.async false
set_option linter.all false
set_option maxRecDepth 100000
set_option maxHeartbeats 2000000
namespace Tly
open PySem PySem.Spec PyProof.Rows L2 Dl
theorem mk_fnG {P : Program} {w : World} {K : PySem.W.Frag} {mg : Str → Option Value} {base : Heap} {n : Str} {ps : List Str} {k : Nat} {sp : Sp} {d : He.DefD} (W : Wd K mg) (i j : Nat) (hf : fa[j]? = some (.glo n)) (hd : fn[i]? = some d) (hat : d.at_ = (n, none)) (hdf : d.dfl = []) (hkw : d.kwd = [])
    (hb : ∀ (kV doc pm : Value) (an : Option Addr) (cdv ct : Value) (us : List Value), us.length = ps.length → bindArgs (PySem.W.fnOf d.name d.qual d.params d.body d.scope .none kV doc pm an cdv ct) ⟨us, []⟩ = pure (ps.zip us))
    (h : ∀ f fd, FunD K d.name d.qual d.params d.body d.scope [] [] f fd → FnOk P w K mg base CX0 k f fd ps sp) : Fn P w K mg base n k ps sp := by
  obtain ⟨fd, F⟩ := W.says.def_ i hd
  have e1 : d.dvs K = [] := by unfold He.DefD.dvs; rw [hdf]; rfl
  have e2 : d.kws K = [] := by unfold He.DefD.kws; rw [hkw]; rfl
  rw [e1, e2] at F
  have ea : He.fAd K d.at_ = He.ga K n := by rw [hat]; rfl
  rw [ea] at F
  exact ⟨He.ga K n, fd, W.glo j hf, F.kp, F.bindsN hb, h _ _ F⟩
section
variable {P : Program} {w : World} {K : PySem.W.Frag} {mg : Str → Option Value} {base : Heap}
abbrev NDraw : List Str := ["_law_deck_here", "_law_bound", "_law_turn", "_law_cell", "_law_mixed"]
def pre_draw (n : Nat) (ds : List D) (R : D → Prop) (k : Nat) : Prop := ∃ b : Int, 1 ≤ b ∧ b ≤ 1000 ∧ n + 1 ≤ 100000 ∧ ds = [.int b] ∧ k = n + 1 ∧ R = IR 0 (b - 1)
theorem sc_law_draw : FnScope ["_law_deck_here", "_law_bound", "_law_turn", "_law_cell", "_law_mixed"] ["_law_deck_here", "_law_bound"] (defScope s_law_draw) := ⟨rfl, rfl, rfl, by decide +kernel, rfl, by decide +kernel, by decide +kernel⟩
theorem ok_law_draw (W : Wd K mg) : Fn P w K mg base "_law_draw" 1 ["_law_deck_here", "_law_bound"] (FSpY (TA K) pre_draw) := by
  refine mk_fnG (d := d_law_draw) W 65 60 rfl rfl rfl rfl rfl (fun _ _ _ _ _ _ us hl => match us, hl with | [_, _], _ => rfl) fun f fd F => ?_
  have S := sc_law_draw
  refine F.ok S (fun vs H Q E ⟨Z, ds, d, c, j, m, n0, us, R, kk, e, _, _, _, _, _, _, _, _, r, q, _⟩ => by
    obtain ⟨b, _, _, _, e2, _⟩ := q
    rw [e, List.length_cons, r.length, e2]; rfl) fun cdv A outer s H vs Q E hr hsp => ?_
  obtain ⟨Z, ds, d, c, n, m, n0, us, R, kk, rfl, hd, m0, m1, z0, z1, hc, hZd, hZ, r, ⟨b, b1, b2, hn, rfl, rfl, rfl⟩, cc⟩ := hsp
  obtain ⟨v, rfl, rv⟩ := r.one
  obtain rfl := rep_int.mp rv
  have nd := S.nd
  have hu : (cxF P w K mg base NDraw d_law_draw.qual d_law_draw.scope f cdv A outer s H E).A.units + 64 < cLine := hr.units
  have hu1 := Nat.lt_of_le_of_lt (Nat.add_le_add_left (show 1 ≤ 64 by decide) _) hu
  have dc : d ≠ c := fun z => by subst z; rw [hd] at hc; cases hc
  let GR : VK → Prop := fun rt => ∀ (x : Int) (cells' : List Int) H', 0 ≤ x → x < b → cells'.length ≤ 64 → Fct d c H ⟨cells', m, n0 + 1⟩ H' → rt (.int x) H'
  refine ⟨_, (pss_cells (X := cxF P w K mg base NDraw d_law_draw.qual d_law_draw.scope f cdv A outer s H E) (c := c) (any_r (d := d) (c := c) (Hin := H))).nox, hc, fun cells hl => ⟨fun v H' => ∃ (x : Int) (cells' : List Int), v = .int x ∧ 0 ≤ x ∧ x < b ∧ cells'.length ≤ 64 ∧ Fct d c H ⟨cells', m, n0 + 1⟩ H', ?_, ?_⟩⟩
  · refine ⟨⟨cells, m, n0⟩, fun E => GR E.rt, ?_, ⟨by rw [L2.upd_ne dc]; exact hd, L2.upd_same, fun b o e1 e2 e => by rw [L2.upd_ne e2]; exact e⟩, fun x cells' H' x0 x1 hl' f' => ⟨x, cells', rfl, x0, x1, hl', f'⟩⟩
    have st0 : L2.start ["_law_deck_here", "_law_bound", "_law_turn", "_law_cell", "_law_mixed"] [.ref d, .int b] = [some (.ref d), some (.int b), none, none, none] := rfl
    rw [st0]
    refine rs_seq [some (.ref d), some (.int b), none, none, none] ⟨cells, m, n0 + 1⟩ (rs_dput hu1 (v_var 0 rfl) v_str (v_op0 op_add (v_dget (k := .inr "draws") hu1 (v_var 0 rfl) v_str rfl) v_int)) ?_
    refine rs_seq [some (.ref d), some (.int b), some (.int (n0 + 1)), some (.int m), none] ⟨cells, m, n0 + 1⟩ (rs_par 2 3 nd (v_dget (k := .inr "draws") hu1 (v_var 0 rfl) v_str rfl) (v_dget (k := .inr "mixed") hu1 (v_var 0 rfl) v_str rfl)) ?_
    refine rs_cons (fun σ' S' => ∃ (x : Int) (cs : List Int), cs.length ≤ 64 ∧ σ' = [some (.ref d), some (.int b), some (.int (n0 + 1)), some (.int x), none] ∧ S' = ⟨cs, m, n0 + 1⟩) GR (rs_if (rt_ne (k := 0) hu (v_dget (k := .inr "cells") hu1 (v_var 0 rfl) v_str rfl)) (fun hne => ?_) (fun _ => ?_)) (fun E g => g) fun σ' S' ⟨x, cs, hcs, e1, e2⟩ => ?_
    · have hpos : 0 < cells.length := by
        cases cells with
        | nil => cases hne
        | cons x xs => simp
      have hx : cells[cells.length - 1]? = some cells[cells.length - 1] := List.getElem?_eq_getElem (by omega)
      have hdl : cells.dropLast.length ≤ 63 := by rw [List.length_dropLast]; omega
      refine rs_seq [some (.ref d), some (.int b), some (.int (n0 + 1)), some (.int cells[cells.length - 1]), none] ⟨cells.dropLast, m, n0 + 1⟩ (rs_set 3 nd (v_pop (v_dget (k := .inr "cells") hu1 (v_var 0 rfl) v_str rfl) hx)) ?_
      refine rs_cons (fun σ' S' => σ' = [some (.ref d), some (.int b), some (.int (n0 + 1)), some (.int cells[cells.length - 1]), none] ∧ S' = ⟨cells.dropLast, m, n0 + 1⟩) GR (rs_if (rt_ge (v_var 3 rfl) (v_op op_pow v_int v_int ⟨by decide, by decide, by decide⟩)) (fun _ => ?_) (fun _ => rs_nil fun E g H' f' => g.1 _ _ ⟨rfl, rfl⟩ H' f')) (fun E g => g.2) fun σ' S' ⟨e1, e2⟩ => ?_
      · refine rs_seq [some (.ref d), some (.int b), some (.int (n0 + 1)), some (.int cells[cells.length - 1]), none] ⟨cells.dropLast ++ [cells[cells.length - 1] / b], m, n0 + 1⟩ (rs_app (v_dget (k := .inr "cells") hu1 (v_var 0 rfl) v_str rfl) (v_op op_fdiv (v_var 3 rfl) (v_var 1 rfl) ⟨by omega, by omega⟩) (by show cells.dropLast.length ≤ 64; omega)) ?_
        exact rs_ret (v_op op_mod (v_callI W.b_int (v_var 3 rfl)) (v_var 1 rfl) (by omega)) fun E g H' f' => g.2 _ _ H' (Int.emod_nonneg _ (by omega)) (Int.emod_lt_of_pos _ (by omega)) (by show (cells.dropLast ++ _).length ≤ 64; rw [List.length_append]; simp only [List.length_singleton]; omega) f'
      · subst e1; subst e2
        refine rs_seq [some (.ref d), some (.int b), some (.int (n0 + 1)), some (.int (cells[cells.length - 1] + m)), none] ⟨cells.dropLast, m, n0 + 1⟩ (rs_set 3 nd (v_op0 op_add (v_var 3 rfl) (v_dget (k := .inr "mixed") hu1 (v_var 0 rfl) v_str rfl))) ?_
        exact rs_nil fun E g H' f' => g.1 _ _ ⟨_, _, by omega, rfl, rfl⟩ H' f'
    · exact rs_nil fun E g H' f' => g.1 _ _ ⟨m, cells, hl, rfl, rfl⟩ H' f'
    · subst e1; subst e2
      let y1 : Int := (x % 2147483629 + 60943 * (n0 + 1) * (n0 + 1) + 331) * 40692 % 2147483647
      let y2 : Int := (y1 * y1 + 39373 * (n0 + 1) + 83) % 2147483587
      have h1 : 0 ≤ y1 := Int.emod_nonneg _ (by decide)
      have h2 : y1 < 2147483647 := Int.emod_lt_of_pos _ (by decide)
      have h3 : 0 ≤ y2 := Int.emod_nonneg _ (by decide)
      have h4 : y2 < 2147483587 := Int.emod_lt_of_pos _ (by decide)
      refine rs_seq [some (.ref d), some (.int b), some (.int (n0 + 1)), some (.int x), some (.int y1)] ⟨cs, m, n0 + 1⟩ (rs_set 4 nd (v_op op_mod (v_op op_mul (v_callI W.b_int (v_op0 op_add (v_op0 op_add (v_op op_mod (v_callI W.b_int (v_var 3 rfl)) v_int (by decide)) (v_op op_mul (v_op op_mul v_int (v_var 2 rfl) (.inl ⟨by decide, by decide⟩)) (v_var 2 rfl) (.inr ⟨by omega, by omega⟩))) v_int)) v_int (.inr ⟨by decide, by decide⟩)) v_int (by decide))) ?_
      refine rs_seq [some (.ref d), some (.int b), some (.int (n0 + 1)), some (.int x), some (.int y2)] ⟨cs, m, n0 + 1⟩ (rs_set 4 nd (v_op op_mod (v_callI W.b_int (v_op0 op_add (v_op0 op_add (v_op op_mul (v_var 4 rfl) (v_var 4 rfl) (.inl ⟨by omega, by omega⟩)) (v_op op_mul v_int (v_var 2 rfl) (.inl ⟨by decide, by decide⟩))) v_int)) v_int (by decide))) ?_
      exact rs_ret (v_op op_mod (v_op op_fdiv (v_op op_mod (v_callI W.b_int (v_op op_mul (v_var 4 rfl) v_int (.inr ⟨by decide, by decide⟩))) v_int (by decide)) v_int ⟨by decide, by decide⟩) (v_var 1 rfl) (by omega)) fun E g H' f' => g _ _ H' (Int.emod_nonneg _ (by omega)) (Int.emod_lt_of_pos _ (by omega)) hcs f'
  · rintro v H' ⟨x, cells', rfl, x0, x1, hl', f'⟩
    refine ⟨cells', hl', f'.hc, ?_⟩
    have hd2 : (L2.upd H' c (.ext (cellsR c))) d = some (.dK (dKvs c m (n0 + 1))) := by rw [L2.upd_ne dc]; exact f'.hd
    have keep : ∀ b o, b ≠ d → H b = some o → (L2.upd H' c (.ext (cellsR c))) b = some o := fun b o e1 e => by
      by_cases z : b = c
      · subst z; rw [hc] at e; cases e; exact L2.upd_same
      · rw [L2.upd_ne z]; exact f'.keep b o e1 z e
    exact cc (.int x) _ Z (.int x) m (n0 + 1) (n + 1) keep hd2 m0 m1 (by omega) (by omega) (Nat.le_refl _) ⟨x, rfl, x0, by omega⟩ (Same.refl _) (fun b o e => keep b o (fun z => by subst z; rw [hZd] at e; cases e) (hZ b o e)) (fun b o e => .inl e) hZd (rep_int.mpr rfl)
end
end Tly
end
section
set_option Elab.async false
set_option linter.all false
set_option maxRecDepth 100000
set_option maxHeartbeats 2000000
/-! More statements that draw; displays of dicts. -/
namespace Dl
open PySem PySem.Spec PyProof.Rows L2
section
variable {X : Cx} {F : Fm} {δ : Nat → List LV} {δ0 : List LV} {a b e : Expr} {es : List Expr} {x y z : D} {pos p p2 : Pos} {σ : L2.St} {H : Hp} {i n k k1 : Nat} {Φ : DE} {P Pa Pb : D → Prop} {u w : Int}
theorem x_mod (ha : XE X F a δ0 (.int u)) (hb : XE X F b δ0 (.int w)) (hc : 0 < w) : XE X F (.BinOp a .Mod b pos) δ0 (.int (u % w)) := x_op op_mod ha.r hb.r fun _ _ _ _ _ _ r1 r2 k => rI_ok r1 r2 hc (.int _) k
/-- two names, one of them a cell -/
theorem hs_parTY (j l : Nat) {n1 n2 : Str} {px py pt pt2 : Pos} {kt k2 : Nat} (hN : X.N.Nodup) (ha : YE X F a δ i n Pa k1) (hb : ∀ m, m ≤ k1 → YE X F b δ i m Pb k) (h : ∀ x y m, Pa x → Pb y → m ≤ k → Φ.nx (((δ m).set j (.d x)).set l (.d y)))
    (hi : X.N[j]? = some n1 := by rfl) (hj : X.N[l]? = some n2 := by rfl) (hx : Loc X.env.scope n1 := by first | exact Or.inl rfl | exact Or.inr rfl) (hy : Loc X.env.scope n2 := by first | exact Or.inl rfl | exact Or.inr rfl)
    (hf1 : X.fn n1 = true ∨ X.env.scope.names.lookup n1 = some .local := by first | exact .inl rfl | exact .inr rfl) (hf2 : X.fn n2 = true ∨ X.env.scope.names.lookup n2 = some .local := by first | exact .inl rfl | exact .inr rfl)
    (hs : swapsWithSole [.Tuple [.Name n1 px, .Name n2 py] kt pt] (.Tuple [a, b] k2 pt2) pos.line X.env = pure false := by rfl) (hw : swappedStores [.Tuple [.Name n1 px, .Name n2 py] kt pt] (.Tuple [a, b] k2 pt2) X.env = pure none := by rfl)
    (h1 : (assignEach [.Tuple [.Name n1 px, .Name n2 py] kt pt] X.env).map (·.2) = [assign (.Tuple [.Name n1 px, .Name n2 py] kt pt) X.env] := by rfl) (hc : X.calm = true := by rfl)
    (h2 : starEach [a, b] X.env = (false, eval a X.env) :: starEach [b] X.env := by rfl) (h3 : starEach [b] X.env = (false, eval b X.env) :: starEach [] X.env := by rfl) :
    HS X F (.Assign [.Tuple [.Name n1 px, .Name n2 py] kt pt] (.Tuple [a, b] k2 pt2) pos) (δ n) Φ :=
  PS.imp (ps_asg (pe_tup (pa_cons ha (pa_cons (any_ye (F := F)) pa_nil h3) h2)) (pg_tup hc (pgs_cons (pg_name hN hi hx hf1) (pgs_cons (pg_name hN hj hy hf2) pgs_nil))) hs hw h1) fun E σ H ⟨H0, S, c⟩ => ⟨H0, S, fun v H1 H01 x m1 q1 p1 g1 S1 r1 => ⟨δ, i, m1, Pb, k, hb m1 q1, H01, S1, fun w H2 H02 y m2 q2 p2 g2 S2 r2 => by
    refine ⟨by show 2 ≤ sizeLine; decide, fun q hq => ?_⟩
    have gl := Gr.laid (o := .tup [v, w]) g2.ex hq
    refine ⟨q, [v, w], rfl, SqT.of upd_same, rfl, v, [w], rfl, w, [], rfl, rfl, ?_⟩
    exact c.nx _ _ H02 _ (g1.s0.trans g2.s0) (((S2.gr gl).set j (Rep.mono g2.s0 _ _ r1)).set l r2) (h x y m2 p1 p2 q2)⟩⟩
/-- two local names -/
theorem hs_parY (j l : Nat) {n1 n2 : Str} {px py pt pt2 : Pos} {kt k2 : Nat} (hN : X.N.Nodup) (ha : YE X F a δ i n Pa k1) (hb : ∀ m, m ≤ k1 → YE X F b δ i m Pb k) (h : ∀ x y m, Pa x → Pb y → m ≤ k → Φ.nx (((δ m).set j (.d x)).set l (.d y))) (hij : j ≠ l := by decide)
    (hi : X.N[j]? = some n1 := by rfl) (hj : X.N[l]? = some n2 := by rfl) (hx : X.env.scope.names.lookup n1 = some .local := by rfl) (hy : X.env.scope.names.lookup n2 = some .local := by rfl)
    (hw : swappedStores [.Tuple [.Name n1 px, .Name n2 py] kt pt] (.Tuple [a, b] k2 pt2) X.env = pure (some [n1, n2]) := by rfl)
    (hs : swapsWithSole [.Tuple [.Name n1 px, .Name n2 py] kt pt] (.Tuple [a, b] k2 pt2) pos.line X.env = pure false := by rfl) (hc : X.calm = true := by rfl)
    (h2 : starEach [a, b] X.env = (false, eval a X.env) :: starEach [b] X.env := by rfl) (h3 : starEach [b] X.env = (false, eval b X.env) :: starEach [] X.env := by rfl) :
    HS X F (.Assign [.Tuple [.Name n1 px, .Name n2 py] kt pt] (.Tuple [a, b] k2 pt2) pos) (δ n) Φ :=
  PS.imp (ps_par hc hN hi hj hij hx hy (pa_cons ha (pa_cons (any_ye (F := F)) pa_nil h3) h2) hw hs) fun E σ H ⟨H0, S, c⟩ => ⟨H0, S, fun v H1 H01 x m1 q1 p1 g1 S1 r1 => ⟨δ, i, m1, Pb, k, hb m1 q1, H01, S1, fun w H2 H02 y m2 q2 p2 g2 S2 r2 => ⟨v, w, rfl,
    c.nx _ _ H02 _ (g1.s0.trans g2.s0) ((S2.set j (Rep.mono g2.s0 _ _ r1)).set l r2) (h x y m2 p1 p2 q2)⟩⟩⟩
theorem hs_parYL (j l : Nat) {n1 n2 : Str} {px py pt pt2 : Pos} {kt k2 : Nat} {ys : List D} (hN : X.N.Nodup) (ha : YE X F a δ i n Pa k) (hb : ∀ m, m ≤ k → XL X F b (δ m) ys) (h : ∀ x m, Pa x → m ≤ k → Φ.nx (((δ m).set j (.d x)).set l (.L ys))) (hij : j ≠ l := by decide)
    (hi : X.N[j]? = some n1 := by rfl) (hj : X.N[l]? = some n2 := by rfl) (hx : X.env.scope.names.lookup n1 = some .local := by rfl) (hy : X.env.scope.names.lookup n2 = some .local := by rfl)
    (hw : swappedStores [.Tuple [.Name n1 px, .Name n2 py] kt pt] (.Tuple [a, b] k2 pt2) X.env = pure (some [n1, n2]) := by rfl)
    (hs : swapsWithSole [.Tuple [.Name n1 px, .Name n2 py] kt pt] (.Tuple [a, b] k2 pt2) pos.line X.env = pure false := by rfl) (hc : X.calm = true := by rfl)
    (h2 : starEach [a, b] X.env = (false, eval a X.env) :: starEach [b] X.env := by rfl) (h3 : starEach [b] X.env = (false, eval b X.env) :: starEach [] X.env := by rfl) :
    HS X F (.Assign [.Tuple [.Name n1 px, .Name n2 py] kt pt] (.Tuple [a, b] k2 pt2) pos) (δ n) Φ := by
  have hany : PE X b (fun σ H Q => ∃ δ, XL X F b δ ys ∧ tL F δ ys σ H Q) := ⟨fun pins s σ H Q I ⟨δ, h, q⟩ => h.run pins s σ H Q I q⟩
  exact PS.imp (ps_par hc hN hi hj hij hx hy (pa_cons ha (pa_cons hany pa_nil h3) h2) hw hs) fun E σ H ⟨H0, S, c⟩ => ⟨H0, S, fun v H1 H01 x m1 q1 p1 g1 S1 r1 => ⟨δ m1, hb m1 q1, H01, S1, fun q vs H2 H02 g2 hq h0 hv r2 => ⟨v, .ref q, rfl,
    c.nx _ _ H02 _ (g1.s0.trans g2.s0) ((S1.set j r1).put l g2 hq h0 (l := .L ys) rfl ⟨vs, hv, r2⟩) (h x m1 p1 q1)⟩⟩⟩
/-! ### displays of dicts keyed by texts -/
def XPP (X : Cx) (F : Fm) (pos : Pos) (keys : List (Option Expr)) (values : List Expr) (δ : List LV) (ks : List Str) (xs : List D) : Prop := ∃ trs, PPs X pos keys values trs ∧ ∀ (σ : L2.St) (H : Hp) (Q : List (V × V) → Hp → Prop),
  (∃ H0, SRep F H0 σ H δ ∧ ∀ H' H0' vs, Gr H0 H H0' H' → vs.length = ks.length → Reps F.T H0' xs vs → Q ((ks.zip vs).map fun q => (V.str q.1, q.2)) H') → tPairs trs σ H Q
theorem xpp_nil : XPP X F pos [] [] δ0 [] [] := ⟨[], pps_nil, fun σ H Q ⟨H0, S, k⟩ => k H H0 [] (Gr.refl S.ex) rfl reps_nil⟩
theorem xpp_cons {s : Str} {j : Nat} {pk : Pos} {keys : List (Option Expr)} {values : List Expr} {ks : List Str} {xs : List D} (he : XE X F e δ0 x) (r : XPP X F pos keys values δ0 ks xs) : XPP X F pos (some (.Constant (.str s) j pk) :: keys) (e :: values) δ0 (s :: ks) (x :: xs) := by
  obtain ⟨trs, hp, h⟩ := r
  refine ⟨_, pps_cons pe_str he hp, fun σ H Q ⟨H0, S, k⟩ => ?_⟩
  refine ⟨H0, S, fun v H1 H01 g1 r1 => h σ H1 _ ⟨H01, S.gr g1, fun H2 H02 vs g2 hl rs => ?_⟩⟩
  exact k H2 H02 (v :: vs) (g1.trans g2) (by rw [List.length_cons, List.length_cons, hl]) (reps_cons (Rep.mono g2.s0 _ _ r1) rs)
theorem pairs_eq : ∀ {ks : List Str} {vs : List V}, vs.length = ks.length → (ks.zip vs).map (fun q => (V.str q.1, q.2)) = ((ks.map (Sum.inr : Str → Key)).zip vs).map (fun kv => (kV kv.1, kv.2))
  | [], _, _ => rfl
  | s :: ks, [], h => by simp at h
  | s :: ks, v :: vs, h => by
    rw [List.zip_cons_cons, List.map_cons, List.map_cons, List.zip_cons_cons, List.map_cons, pairs_eq (by simpa using h)]
    rfl
theorem m_disp {keys : List (Option Expr)} {values : List Expr} {ks : List Str} {xs : List D} (h : XPP X F pos keys values δ0 ks xs) (nd : ks.Nodup) (hx : ks.length = xs.length) (h15 : ks.length ≤ 15) (hall : keys.all (·.isSome) = true := by rfl) (hl : keys.length = values.length := by rfl) (h0 : keys ≠ [] := by simp) (hk : keys.length ≤ 15 := by decide) :
    XM X F (.Dict keys values pos) δ0 (ks.map .inr) xs := by
  obtain ⟨trs, hp, q⟩ := h
  refine PE.imp (pe_disp hp hall hl h0 hk) fun σ H Q ⟨H0, S, k⟩ p hp => ?_
  have gl : Gr H0 H H0 (upd H p (.dK [])) := Gr.laid S.ex hp
  refine q σ _ _ ⟨H0, S.gr gl, fun H' H0' vs g hv rs => ?_⟩
  have e1 : H' p = some (.dK []) := g.s _ _ upd_same
  have e0 : H0' p = none := by
    cases z : H0' p with
    | none => rfl
    | some o =>
      rcases g.nw _ _ z with y | y
      · rw [S.ex.free hp] at y; cases y
      · rw [upd_same] at y; cases y
  refine ⟨e1, (ks.map Sum.inr).zip vs, ?_, by rw [List.length_zip, List.length_map]; omega, ?_⟩
  · exact pairs_eq hv
  · have em : mergeK [] ((ks.map Sum.inr).zip vs) = (ks.map (Sum.inr : Str → Key)).zip vs := by
      have := mergeK_app (kvs := []) (more := (ks.map (Sum.inr : Str → Key)).zip vs) (by
        rw [List.nil_append, List.map_fst_zip (by rw [List.length_map]; omega)]
        exact List.pairwise_map.mpr (nd.imp fun h z => h (Sum.inr.inj z)))
      rw [this, List.nil_append]
    rw [em]
    exact k p vs _ H0' ((gl.trans g).app hp e0) hp e0 upd_same (by rw [List.length_map]; exact hx) rs
end
/-- .. and the cells hidden at the end -/
theorem pss_hide {X : Cx} {sts : List Stmt} {t : TS} (h : PSs X sts t) : PSs X sts (fun E σ H => ∃ rt' : VK, t { nx := fun _ _ => False, rt := rt' } σ H ∧
    ∀ v H', rt' v H' → ∃ (c : Addr) (cells' : List Int), cells'.length ≤ 64 ∧ H' c = some (.lst (cells'.map V.int)) ∧ E.rt v (upd H' c (.ext (cellsR c)))) := by
  refine ⟨fun pins s σ H E I ⟨rt', ht, hback⟩ => ?_⟩
  refine thn (h.run pins s σ _ _ I ht) fun f s1 r => ?_
  cases f with
  | next => obtain ⟨_, _, _, z⟩ := r; exact z.elim
  | brk => obtain ⟨_, _, _, z⟩ := r; exact z.elim
  | cont => obtain ⟨_, _, _, z⟩ := r; exact z.elim
  | ret u =>
    obtain ⟨v, σ', H', I', rv, q⟩ := r
    obtain ⟨c, cells', hl', hc', hE⟩ := hback v H' q
    obtain ⟨_, its', k', hv', hobj'⟩ := I'.hok c _ hc'
    refine ⟨v, σ', _, Inv.reobj (o := .ext (cellsR c)) I' (by rw [hc']; exact True.intro) ⟨_, hobj'⟩ ⟨⟨cells', its', k', hl', hv', hobj'⟩, ⟨_, hobj'⟩, fun h1 h2 ⟨a, b, e, x1, x2, x3⟩ k => ⟨a, b, e, x1, x2, k _ x3⟩⟩, rv, hE⟩
end Dl
end
section
set_option Elab.async false
set_option linter.all false
set_option maxRecDepth 100000
set_option maxHeartbeats 2000000
namespace Tly
open PySem PySem.Spec PyProof.Rows L2 Dl
/-- the parts of a drawn count -/
def wD (t : Tal) : D := .dk ((["digits", "start", "tables", "ends"] : List Str).map Sum.inr) [.str (mkS t.dg), rowD t.start, .tup (t.tables.map tabD), rowD t.ends]
def TabS (n : Nat) (m : Tab) : Prop := SqT' n m ∧ ∀ r ∈ m, ∀ x ∈ r, 0 ≤ x ∧ x ≤ 2
def RowS (n : Nat) (r : Row) : Prop := r.length = n ∧ ∀ x ∈ r, 0 ≤ x ∧ x ≤ 2
theorem ints_of {lo hi : Int} : ∀ {ys : List D}, (∀ y ∈ ys, IR lo hi y) → ∃ r : List Int, ys = r.map D.int ∧ ∀ x ∈ r, lo ≤ x ∧ x ≤ hi
  | [], _ => ⟨[], rfl, by simp⟩
  | y :: ys, h => by
    obtain ⟨i, e, h1, h2⟩ := h y (by simp)
    obtain ⟨r, e2, h3⟩ := ints_of (ys := ys) fun z hz => h z (by simp [hz])
    exact ⟨i :: r, by rw [e, e2]; rfl, fun x hx => by
      rcases List.mem_cons.mp hx with z | z
      · subst z; exact ⟨h1, h2⟩
      · exact h3 x z⟩
section
variable {P : Program} {w : World} {K : PySem.W.Frag} {mg : Str → Option Value} {base : Heap}
def pre_pick (n : Nat) (ds : List D) (R : D → Prop) (k : Nat) : Prop := n + 1 ≤ 100000 ∧ k = n + 1 ∧ ((∃ xs : List D, 1 ≤ xs.length ∧ xs.length ≤ 1000 ∧ ds = [.lst xs] ∧ R = fun z => z ∈ xs) ∨ ∃ s : List Nat, 1 ≤ s.length ∧ s.length ≤ 1000 ∧ ds = [.str (mkS s)] ∧ R = fun z => ∃ ch ∈ s, z = .str (sg ch))
theorem pre_pick_len {n : Nat} {ds : List D} {R : D → Prop} {k : Nat} (h : pre_pick n ds R k) : ds.length = 1 := by
  obtain ⟨_, _, ⟨_, _, _, e, _⟩ | ⟨_, _, _, e, _⟩⟩ := h <;> rw [e] <;> rfl
theorem sc_law_pick : FnScope ["_law_deck_here", "_law_some"] ["_law_deck_here", "_law_some"] (defScope s_law_pick) := ⟨rfl, rfl, rfl, by decide +kernel, rfl, by decide +kernel, by decide +kernel⟩
theorem ok_law_pick (W : Wd K mg) : Fn P w K mg base "_law_pick" 2 ["_law_deck_here", "_law_some"] (FSpY (TA K) pre_pick) := by
  refine mk_fnG (d := d_law_pick) W 66 61 rfl rfl rfl rfl rfl (fun _ _ _ _ _ _ us hl => match us, hl with | [_, _], _ => rfl) fun f fd F => ?_
  have S := sc_law_pick
  refine fn_okY (k := 1) F S (fun j ds R m h => by rw [pre_pick_len h]; rfl) fun cdv A outer s0 H E B Z d c j ds R m hp hr => ?_
  have nd := S.nd
  obtain ⟨h1, rfl, ⟨xs, l1, l2, rfl, rfl⟩ | ⟨s, l1, l2, rfl, rfl⟩⟩ := hp
  · refine hy_ret (δ := fun n => [.K d c n, .d (.lst xs)]) (i := 0) (y_ixL (x_var 1) (y_call ⟨fun _ => rfl, fun _ _ => rfl⟩ (ok_law_draw W) (hr.mono (by omega)) (a_cons (x_lenL W.b_len (XE.r (x_var 1))) a_nil) ⟨(xs.length : Int), by omega, by omega, h1, rfl, rfl, rfl⟩)) fun x n' hx hn => ⟨n', rfl, hn, hx⟩
  · have e : (mkS s).length = s.length := by show (mkS s).cps.size = _; exact mkS_size
    refine hy_ret (P := fun z => ∃ ch ∈ s, z = .str (sg ch)) (δ := fun n => [.K d c n, .d (.str (mkS s))]) (i := 0) (YE.mono (Pa := fun z => ∃ ch ∈ (mkS s).cps.toList, z = .str (sg ch)) (y_ixS (x_var 1) (by rw [e, sizeLine_eq]; omega) (y_call ⟨fun _ => rfl, fun _ _ => rfl⟩ (ok_law_draw W) (hr.mono (by omega)) (a_cons (XE.eq (x_lenS W.b_len (x_var 1) (by rw [e, sizeLine_eq]; omega)) (by rw [e])) a_nil) ⟨(s.length : Int), by omega, by omega, h1, rfl, rfl, by rw [mkS_list]⟩)) (fun x ⟨ch, hc, hx⟩ => ⟨ch, by rw [mkS_list] at hc; exact hc, hx⟩) (Nat.le_refl _)) fun x n' hx hn => ⟨n', rfl, hn, hx⟩
end
end Tly
end
section
set_option Elab.async false
set_option linter.all false
set_option maxRecDepth 100000
set_option maxHeartbeats 2000000
namespace Tly
open PySem PySem.Spec PyProof.Rows L2 Dl
def dgsAll : List (List Nat) := [[48, 49], [48], [55], [48, 49, 50]]
section
variable {P : Program} {w : World} {K : PySem.W.Frag} {mg : Str → Option Value} {base : Heap}
def pre_count (n : Nat) (ds : List D) (R : D → Prop) (k : Nat) : Prop := ∃ top : Nat, 2 ≤ top ∧ top ≤ 3 ∧ n + 200 ≤ 100000 ∧ ds = [.int (top : Int)] ∧ k = n + 200 ∧ R = fun z => ∃ t : Tal, t.Ok ∧ t.Base ∧ t.n ≤ top ∧ z = wD t
theorem sc_law_count : FnScope ["_law_deck_here", "_law_top", "_law_signs", "_law_size", "_law_is_row", "_law_tables", "_law_sign", "_law_rows", "_law_j", "_law_row", "_law_k", "_law_rare", "_law_n", "_law_begun", "_law_ends"] ["_law_deck_here", "_law_top"] (defScope s_law_count) := ⟨rfl, rfl, rfl, by decide +kernel, rfl, by decide +kernel, by decide +kernel⟩
theorem ok_law_count (W : Wd K mg) : Fn P w K mg base "_law_count" 3 ["_law_deck_here", "_law_top"] (FSpY (TA K) pre_count) := by
  refine mk_fnG (d := d_law_count) W 67 62 rfl rfl rfl rfl rfl (fun _ _ _ _ _ _ us hl => match us, hl with | [_, _], _ => rfl) fun f fd F => ?_
  have S := sc_law_count
  refine fn_okY (k := 2) F S (fun j ds R m h => by obtain ⟨top, t2, t3, hj, rfl, rfl, rfl⟩ := h; rfl) fun cdv A outer s0 H E B Z d c j ds R m hp hr => ?_
  obtain ⟨top, t2, t3, hj, rfl, rfl, rfl⟩ := hp
  have nd := S.nd
  refine hy_cons (fun δ => ∃ (n : Nat) (dg : List Nat) (sz : Nat), n ≤ j + 2 ∧ dg ∈ dgsAll ∧ 1 ≤ sz ∧ sz ≤ top ∧ δ = [.K d c n, .d (.int (top : Int)), .d (.str (mkS dg)), .d (.int (sz : Int)), .un, .un, .un, .un, .un, .un, .un, .un, .un, .un, .un]) (hs_parTY 2 3 (δ := fun n => [.K d c n, .d (.int (top : Int)), .un, .un, .un, .un, .un, .un, .un, .un, .un, .un, .un, .un, .un]) (i := 0) (Pa := fun z => ∃ dg ∈ dgsAll, z = .str (mkS dg)) (Pb := IR (min (top : Int) 1) (top : Int)) (k1 := j + 1) (k := j + 2) nd
    (YE.mono (y_call ⟨fun _ => rfl, fun _ _ => rfl⟩ (ok_law_pick W) (hr.mono (by omega)) (a_cons (XL.xe (l_lst (a_cons x_str (a_cons x_str (a_cons x_str (a_cons x_str (a_cons x_str a_nil))))))) a_nil) ⟨by omega, rfl, .inl ⟨_, by simp, by simp, rfl, rfl⟩⟩) (fun x hx => by simp only [List.mem_cons, List.not_mem_nil, or_false] at hx; rcases hx with rfl | rfl | rfl | rfl | rfl <;> exact ⟨_, by unfold dgsAll; simp; first | exact .inl rfl | exact .inr (.inl rfl) | exact .inr (.inr (.inl rfl)) | exact .inr (.inr (.inr rfl)), rfl⟩) (Nat.le_refl _))
    (fun m hm => y_min2 W.b_min (x_var 1) (YE.mono (P := IR 1 4) (y_call ⟨fun _ => rfl, fun _ _ => rfl⟩ (ok_law_pick W) (hr.mono (by omega)) (a_cons (XL.xe (l_lst (a_cons x_int (a_cons x_int (a_cons x_int (a_cons x_int (a_cons x_int (a_cons x_int (a_cons x_int a_nil))))))))) a_nil) ⟨by omega, rfl, .inl ⟨_, by simp, by simp, rfl, rfl⟩⟩) (fun x hx => by simp only [List.mem_cons, List.not_mem_nil, or_false] at hx; rcases hx with rfl | rfl | rfl | rfl | rfl | rfl | rfl <;> exact ⟨_, rfl, by decide, by decide⟩) (by omega)) (by omega)) (fun x y m ⟨dg, hd, ex⟩ ⟨z, ey, z0, z1⟩ hm => ⟨m, dg, z.toNat, hm, hd, by omega, by omega, by rw [ex, ey, ← Int.toNat_of_nonneg (show 0 ≤ z by omega)]; rfl⟩)) fun δ ⟨n, dg, sz, hn, hdg, s1, s2, e⟩ => ?_
  subst e
  refine hy_cons (fun δ => ∃ (n : Nat) (ir : Bool), n ≤ j + 3 ∧ δ = [.K d c n, .d (.int (top : Int)), .d (.str (mkS dg)), .d (.int (sz : Int)), .d (.bl ir), .L [], .un, .un, .un, .un, .un, .un, .un, .un, .un]) (hs_parYL 4 5 (δ := fun n => [.K d c n, .d (.int (top : Int)), .d (.str (mkS dg)), .d (.int (sz : Int)), .un, .un, .un, .un, .un, .un, .un, .un, .un, .un, .un]) (i := 0) (Pa := BP) (k := j + 3) nd (YE.mono (y_gt (lo := 0) (hi := 4) (y_call ⟨fun _ => rfl, fun _ _ => rfl⟩ (ok_law_draw W) (hr.mono (by omega)) (a_cons x_int a_nil) ⟨5, by omega, by omega, by omega, rfl, rfl, rfl⟩) (fun _ _ => x_int)) (fun x hx => hx) (by omega)) (fun m _ => l_lst a_nil) fun x m ⟨b, ex⟩ hm => ⟨m, b, hm, by rw [ex]; rfl⟩) fun δ ⟨n, ir, hn, e⟩ => ?_
  subst e
  have hdl : dg.length ≤ 3 := by unfold dgsAll at hdg; simp at hdg; rcases hdg with rfl | rfl | rfl | rfl <;> decide
  refine hy_cons (fun δ => ∃ (i : Nat), i = dg.length ∧ ∃ (n : Nat) (ts : List Tab) (u6 u7 u8 u9 u10 u11 u12 : LV), n ≤ j + 3 + 18 * i ∧ ts.length = i ∧ (∀ m ∈ ts, TabS sz m) ∧ δ = [.K d c n, .d (.int (top : Int)), .d (.str (mkS dg)), .d (.int (sz : Int)), .d (.bl ir), .L (ts.map tabD), u6, u7, u8, u9, u10, u11, u12, .un, .un])
    (hs_forT (t := .one 6) dg (fun c => D.str (sg c)) (fun i δ => ∃ (n : Nat) (ts : List Tab) (u6 u7 u8 u9 u10 u11 u12 : LV), n ≤ j + 3 + 18 * i ∧ ts.length = i ∧ (∀ m ∈ ts, TabS sz m) ∧ δ = [.K d c n, .d (.int (top : Int)), .d (.str (mkS dg)), .d (.int (sz : Int)), .d (.bl ir), .L (ts.map tabD), u6, u7, u8, u9, u10, u11, u12, .un, .un]) (XI.eq (i_str (x_var 2)) signs_mkS) (g_name 6 nd) ⟨n, [], .un, .un, .un, .un, .un, .un, .un, by omega, rfl, by simp, rfl⟩ (fun i δ ch hch ⟨n, ts, u6, u7, u8, u9, u10, u11, u12, hn, hts, hT, e⟩ => ?_) (fun δ h => ⟨_, rfl, h⟩)) fun δ ⟨i, hi, n, ts, u6, u7, u8, u9, u10, u11, u12, hn, hts, hT, e⟩ => ?_
  · subst e
    refine ⟨_, rfl, ?_⟩
    have hi : i < dg.length := (List.getElem?_eq_some_iff.mp hch).1
    refine hss_drop 7 (hss_drop 8 (hss_drop 9 (hss_drop 10 (hss_drop 11 (hss_drop 12 ?_)))))
    refine hss_seq [.K d c n, .d (.int (top : Int)), .d (.str (mkS dg)), .d (.int (sz : Int)), .d (.bl ir), .L (ts.map tabD), .d (.str (sg ch)), .L [], .un, .un, .un, .un, .un, .un, .un] (fun Φ h => hs_setL 7 nd (l_lst a_nil) h) ?_
    refine hss_cons (fun δ => ∃ (a : Nat), a = sz ∧ ∃ (n : Nat) (rs : List Row) (v8 v9 v10 v11 v12 : LV), n ≤ j + 3 + 18 * i + 6 * a ∧ rs.length = a ∧ (∀ r ∈ rs, RowS sz r) ∧ δ = [.K d c n, .d (.int (top : Int)), .d (.str (mkS dg)), .d (.int (sz : Int)), .d (.bl ir), .L (ts.map tabD), .d (.str (sg ch)), .L (rs.map rowD), v8, v9, v10, v11, v12, .un, .un])
      (hs_forT (t := .one 8) (List.range sz) (fun (a : Nat) => D.int a) (fun a δ => ∃ (n : Nat) (rs : List Row) (v8 v9 v10 v11 v12 : LV), n ≤ j + 3 + 18 * i + 6 * a ∧ rs.length = a ∧ (∀ r ∈ rs, RowS sz r) ∧ δ = [.K d c n, .d (.int (top : Int)), .d (.str (mkS dg)), .d (.int (sz : Int)), .d (.bl ir), .L (ts.map tabD), .d (.str (sg ch)), .L (rs.map rowD), v8, v9, v10, v11, v12, .un, .un]) (i_rangeN W.b_range (x_var 3) (by omega)) (g_name 8 nd) ⟨n, [], .un, .un, .un, .un, .un, by omega, rfl, by simp, rfl⟩ (fun a δ ja hja ⟨n, rs, v8, v9, v10, v11, v12, hn, hrs, hR, e⟩ => ?_) (fun δ h => ⟨_, by rw [List.length_range], h⟩)) fun δ ⟨a, ha, n, rs, v8, v9, v10, v11, v12, hn, hrs, hR, e⟩ => ?_
    · subst e
      refine ⟨_, rfl, ?_⟩
      have hal : a < sz := by have := (List.getElem?_eq_some_iff.mp hja).1; rwa [List.length_range] at this
      refine hss_drop 9 (hss_drop 10 (hss_drop 11 (hss_drop 12 ?_)))
      refine hss_seq [.K d c n, .d (.int (top : Int)), .d (.str (mkS dg)), .d (.int (sz : Int)), .d (.bl ir), .L (ts.map tabD), .d (.str (sg ch)), .L (rs.map rowD), .d (.int (ja : Nat)), .L [], .un, .un, .un, .un, .un] (fun Φ h => hs_setL 9 nd (l_lst a_nil) h) ?_
      refine hss_cons (fun δ => ∃ (b : Nat), b = sz ∧ ∃ (n : Nat) (r : Row) (w10 w11 w12 : LV), n ≤ j + 3 + 18 * i + 6 * a + 2 * b ∧ r.length = b ∧ (∀ x ∈ r, 0 ≤ x ∧ x ≤ 2) ∧ δ = [.K d c n, .d (.int (top : Int)), .d (.str (mkS dg)), .d (.int (sz : Int)), .d (.bl ir), .L (ts.map tabD), .d (.str (sg ch)), .L (rs.map rowD), .d (.int (ja : Nat)), .L (r.map .int), w10, w11, w12, .un, .un])
        (hs_forT (t := .one 10) (List.range sz) (fun (a : Nat) => D.int a) (fun b δ => ∃ (n : Nat) (r : Row) (w10 w11 w12 : LV), n ≤ j + 3 + 18 * i + 6 * a + 2 * b ∧ r.length = b ∧ (∀ x ∈ r, 0 ≤ x ∧ x ≤ 2) ∧ δ = [.K d c n, .d (.int (top : Int)), .d (.str (mkS dg)), .d (.int (sz : Int)), .d (.bl ir), .L (ts.map tabD), .d (.str (sg ch)), .L (rs.map rowD), .d (.int (ja : Nat)), .L (r.map .int), w10, w11, w12, .un, .un]) (i_rangeN W.b_range (x_var 3) (by omega)) (g_name 10 nd) ⟨n, [], .un, .un, .un, by omega, rfl, by simp, rfl⟩ (fun b δ kb hkb ⟨n, r, w10, w11, w12, hn, hr2, hX, e⟩ => ?_) (fun δ h => ⟨_, by rw [List.length_range], h⟩)) fun δ ⟨b, hb, n, r, w10, w11, w12, hn, hr2, hX, e⟩ => ?_
      · subst e
        refine ⟨_, rfl, ?_⟩
        have hbl : b < sz := by have := (List.getElem?_eq_some_iff.mp hkb).1; rwa [List.length_range] at this
        refine hss_drop 11 (hss_drop 12 ?_)
        let rr : Int := if (ja : Int) < (kb : Int) then 2 else if ir then 20 else 5
        have rr1 : 1 ≤ rr ∧ rr ≤ 20 := by show 1 ≤ (if (ja : Int) < (kb : Int) then 2 else if ir then 20 else 5 : Int) ∧ (if (ja : Int) < (kb : Int) then 2 else if ir then 20 else 5 : Int) ≤ 20; split <;> first | omega | (cases ir <;> simp)
        refine hss_seq [.K d c n, .d (.int (top : Int)), .d (.str (mkS dg)), .d (.int (sz : Int)), .d (.bl ir), .L (ts.map tabD), .d (.str (sg ch)), .L (rs.map rowD), .d (.int (ja : Nat)), .L (r.map .int), .d (.int (kb : Nat)), .d (.int rr), .un, .un, .un] (fun Φ h => hs_set 11 nd (x_if (t_gt (x_var 10) (x_var 8)) (fun q => XE.eq x_int (by show D.int 2 = D.int (if (ja : Int) < (kb : Int) then 2 else if ir then 20 else 5); rw [if_pos (of_decide_eq_true q)])) (fun q => x_if (t_val (x_var 4)) (fun q2 => XE.eq x_int (by show D.int 20 = D.int (if (ja : Int) < (kb : Int) then 2 else if ir then 20 else 5); rw [if_neg (of_decide_eq_false q), q2]; rfl)) (fun q2 => XE.eq x_int (by show D.int 5 = D.int (if (ja : Int) < (kb : Int) then 2 else if ir then 20 else 5); rw [if_neg (of_decide_eq_false q), q2]; rfl)))) h) ?_
        refine hss_cons (fun δ => ∃ (n2 : Nat) (z : Int), n2 ≤ n + 1 ∧ 0 ≤ z ∧ z ≤ 1 ∧ δ = [.K d c n2, .d (.int (top : Int)), .d (.str (mkS dg)), .d (.int (sz : Int)), .d (.bl ir), .L (ts.map tabD), .d (.str (sg ch)), .L (rs.map rowD), .d (.int (ja : Nat)), .L (r.map .int), .d (.int (kb : Nat)), .d (.int rr), .d (.int z), .un, .un]) (hs_setY 12 (δ := fun n => [.K d c n, .d (.int (top : Int)), .d (.str (mkS dg)), .d (.int (sz : Int)), .d (.bl ir), .L (ts.map tabD), .d (.str (sg ch)), .L (rs.map rowD), .d (.int (ja : Nat)), .L (r.map .int), .d (.int (kb : Nat)), .d (.int rr), .un, .un, .un]) (i := 0) (P := IR 0 1) (k := n + 1) nd (y_if (t_eq (x_var 10) (x_var 8)) (fun _ => y_intB W.b_int (y_gt (y_call ⟨fun _ => rfl, fun _ _ => rfl⟩ (ok_law_draw W) (hr.mono (by omega)) (a_cons x_int a_nil) ⟨4, by omega, by omega, by omega, rfl, rfl, rfl⟩) (fun _ _ => x_int))) (fun _ => y_intB W.b_int (y_eqI (y_call ⟨fun _ => rfl, fun _ _ => rfl⟩ (ok_law_draw W) (hr.mono (by omega)) (a_cons (x_var 11) a_nil) ⟨rr, by omega, by omega, by omega, rfl, rfl, rfl⟩) (fun _ _ => x_int)))) fun x m ⟨z, ex, z0, z1⟩ hm => ⟨m, z, hm, z0, z1, by rw [ex]; rfl⟩) fun δ ⟨n2, z, hn2, z0, z1, e⟩ => ?_
        subst e
        refine hss_one (hs_appendY 9 (δ := fun n => [.K d c n, .d (.int (top : Int)), .d (.str (mkS dg)), .d (.int (sz : Int)), .d (.bl ir), .L (ts.map tabD), .d (.str (sg ch)), .L (rs.map rowD), .d (.int (ja : Nat)), .L (r.map .int), .d (.int (kb : Nat)), .d (.int rr), .d (.int z), .un, .un]) (i := 0) (P := IR 0 2) (k := n2 + 1) (xs := r.map .int) (y_ifY (k1 := n2 + 1) (YW.t (yw_and (t_gt (x_var 12) x_int) (by omega) fun _ => yw_and (t_ne (x_var 10) (x_var 8)) (by omega) fun _ => yw_and1 (yt_eqI (y_call ⟨fun _ => rfl, fun _ _ => rfl⟩ (ok_law_draw W) (hr.mono (by omega)) (a_cons x_int a_nil) ⟨12, by omega, by omega, by omega, rfl, rfl, rfl⟩) (fun _ _ => x_int)))) (fun m hm => xe_y x_int ⟨2, rfl, by decide, by decide⟩ hm) (fun m hm => xe_y (x_var 12) ⟨z, rfl, z0, by omega⟩ hm)) (fun _ => rfl) (by rw [List.length_map]; omega) fun x m ⟨q, ex, q0, q1⟩ hm => ?_)
        refine ⟨m, r ++ [q], .d (.int (kb : Nat)), .d (.int rr), .d (.int z), by omega, by rw [List.length_append, hr2]; rfl, fun x hx => ?_, by rw [ex, List.map_append]; rfl⟩
        rcases List.mem_append.mp hx with y | y
        · exact hX x y
        · rw [List.mem_singleton.mp y]; exact ⟨q0, q1⟩
      · subst e; subst hb
        refine hss_one (hs_append 7 (x_tupL W.b_tuple (o_L 9)) rfl (by rw [List.length_map]; omega) ?_)
        refine ⟨n, rs ++ [r], .d (.int (ja : Nat)), .L (r.map .int), w10, w11, w12, by omega, by rw [List.length_append, hrs]; rfl, fun x hx => ?_, by rw [List.map_append]; rfl⟩
        rcases List.mem_append.mp hx with y | y
        · exact hR x y
        · rw [List.mem_singleton.mp y]; exact ⟨hr2, hX⟩
    · subst e; subst ha
      refine hss_one (hs_append 5 (x_tupL W.b_tuple (o_L 7)) rfl (by rw [List.length_map]; omega) ?_)
      refine ⟨n, ts ++ [rs], .d (.str (sg ch)), .L (rs.map rowD), v8, v9, v10, v11, v12, by omega, by rw [List.length_append, hts]; rfl, fun x hx => ?_, by rw [List.map_append]; rfl⟩
      rcases List.mem_append.mp hx with y | y
      · exact hT x y
      · rw [List.mem_singleton.mp y]; exact ⟨⟨hrs, fun r hr => (hR r hr).1⟩, fun r hr => (hR r hr).2⟩
  subst e; subst hi
  refine hy_drop 6 (hy_drop 7 (hy_drop 8 (hy_drop 9 (hy_drop 10 (hy_drop 11 (hy_drop 12 ?_))))))
  refine hy_cons (fun δ => ∃ (n2 : Nat) (s : Row), n2 ≤ n + 6 ∧ s.length = sz ∧ (∀ x ∈ s, 0 ≤ x ∧ x ≤ 2) ∧ δ = [.K d c n2, .d (.int (top : Int)), .d (.str (mkS dg)), .d (.int (sz : Int)), .d (.bl ir), .L (ts.map tabD), .un, .un, .un, .un, .un, .un, .un, .d (rowD s), .un]) (hs_setY 13 (δ := fun n => [.K d c n, .d (.int (top : Int)), .d (.str (mkS dg)), .d (.int (sz : Int)), .d (.bl ir), .L (ts.map tabD), .un, .un, .un, .un, .un, .un, .un, .un, .un]) (i := 0) (P := fun z => ∃ xs, z = .tup xs ∧ xs.length = sz ∧ ∀ y ∈ xs, IR 0 2 y) (k := n + 3 * 2) nd (y_tupL (PL := fun xs => xs.length = sz ∧ ∀ y ∈ xs, IR 0 2 y) W.b_tuple (YE.mono (y_lc (XP := (fun xs => xs = (List.range sz).map fun (a : Nat) => D.int a)) (Pe := IR 0 2) (kk := 2) (L := 3) (k0 := n) [("_law_k", 10)] (.one 10) nd ⟨fun _ => rfl, fun _ _ => rfl⟩ (xi_y (i_rangeN W.b_range (x_var 3) (by omega)) rfl (Nat.le_refl _)) (blkOk_by (by kernel_rfl)) (fun xs hxs => by rw [hxs, List.length_map, List.length_range]; omega) (fun _ _ _ _ _ => g_name 10 nd) (fun xs hxs x hx => by
      rw [hxs] at hx
      obtain ⟨q, hq, rfl⟩ := List.mem_map.mp hx
      exact ⟨fun n => [.K d c n, .d (.int (top : Int)), .d (.str (mkS dg)), .d (.int (sz : Int)), .d (.bl ir), .L (ts.map tabD), .un, .un, .un, .un, .d (.int (q : Nat)), .un, .un, .un, .un], fun _ => rfl, ⟨fun _ => rfl, fun _ _ => rfl⟩, fun n1 hn1 _ _ _ _ _ => YE.mono (y_mul (k1 := n1 + 1) (lo := 1) (hi := 2) (y_intB W.b_int (y_or (x_eq (x_var 10) x_int) (by omega) fun _ => y_or1 (y_eqI (y_call ⟨fun _ => rfl, fun _ _ => rfl⟩ (ok_law_draw W) (hr.mono (by omega)) (a_cons x_int a_nil) ⟨4, by omega, by omega, by omega, rfl, rfl, rfl⟩) (fun _ _ => x_int)))) (fun m hm => YE.mono (P := IR 1 2) (k := n1 + 2) (y_call ⟨fun _ => rfl, fun _ _ => rfl⟩ (ok_law_pick W) (hr.mono (by omega)) (a_cons (XL.xe (l_lst (a_cons x_int (a_cons x_int (a_cons x_int (a_cons x_int a_nil)))))) a_nil) ⟨by omega, rfl, .inl ⟨_, by simp, by simp, rfl, rfl⟩⟩) (fun x hx => by simp only [List.mem_cons, List.not_mem_nil, or_false] at hx; rcases hx with rfl | rfl | rfl | rfl <;> exact ⟨_, rfl, by decide, by decide⟩) (by omega)) (by decide) (by decide)) (fun x hx => hx) (Nat.le_refl _)⟩)) (fun z ⟨ys, xs, ez, hxs, hl, hP⟩ => ⟨ys, ez, by rw [hl, hxs, List.length_map, List.length_range], hP⟩) (Nat.le_refl _))) fun x m ⟨xs, ex, hl, hP⟩ hm => ?_) fun δ ⟨n2, s, hn2, hs, hS, e⟩ => ?_
  · obtain ⟨s, es, hs⟩ := ints_of hP
    exact ⟨m, s, by omega, by rw [← hl, es, List.length_map], hs, by rw [ex, es]; rfl⟩
  subst e
  refine hy_cons (fun δ => ∃ (n3 : Nat) (en : Row), n3 ≤ n2 + 3 ∧ en.length = sz ∧ (∀ x ∈ en, 0 ≤ x ∧ x ≤ 3) ∧ δ = [.K d c n3, .d (.int (top : Int)), .d (.str (mkS dg)), .d (.int (sz : Int)), .d (.bl ir), .L (ts.map tabD), .un, .un, .un, .un, .un, .un, .un, .d (rowD s), .L (en.map .int)]) (hs_setLcY 14 (δ := fun n => [.K d c n, .d (.int (top : Int)), .d (.str (mkS dg)), .d (.int (sz : Int)), .d (.bl ir), .L (ts.map tabD), .un, .un, .un, .un, .un, .un, .un, .d (rowD s), .un]) (i := 0) (XP := (fun xs => xs = (List.range sz).map fun (a : Nat) => D.int a)) (Pe := IR 0 3) (kk := 1) (L := 3) (k0 := n2) [("_law_k", 10)] (.one 10) nd ⟨fun _ => rfl, fun _ _ => rfl⟩ (xi_y (i_rangeN W.b_range (x_var 3) (by omega)) rfl (Nat.le_refl _)) (blkOk_by (by kernel_rfl)) (fun xs hxs => by rw [hxs, List.length_map, List.length_range]; omega) (fun _ _ _ _ _ => g_name 10 nd) (fun xs hxs x hx => by
      rw [hxs] at hx
      obtain ⟨q, hq, rfl⟩ := List.mem_map.mp hx
      exact ⟨fun n => [.K d c n, .d (.int (top : Int)), .d (.str (mkS dg)), .d (.int (sz : Int)), .d (.bl ir), .L (ts.map tabD), .un, .un, .un, .un, .d (.int (q : Nat)), .un, .un, .d (rowD s), .un], fun _ => rfl, ⟨fun _ => rfl, fun _ _ => rfl⟩, fun n1 hn1 _ _ _ _ _ => y_if (t_eq (x_var 10) (x_sub (x_var 3) x_int)) (fun _ => YE.mono (P := IR 0 3) (y_call ⟨fun _ => rfl, fun _ _ => rfl⟩ (ok_law_pick W) (hr.mono (by omega)) (a_cons (XL.xe (l_lst (a_cons x_int (a_cons x_int (a_cons x_int (a_cons x_int (a_cons x_int a_nil))))))) a_nil) ⟨by omega, rfl, .inl ⟨_, by simp, by simp, rfl, rfl⟩⟩) (fun x hx => by simp only [List.mem_cons, List.not_mem_nil, or_false] at hx; rcases hx with rfl | rfl | rfl | rfl | rfl <;> exact ⟨_, rfl, by decide, by decide⟩) (Nat.le_refl _)) (fun _ => YE.mono (P := IR 0 3) (y_call ⟨fun _ => rfl, fun _ _ => rfl⟩ (ok_law_pick W) (hr.mono (by omega)) (a_cons (XL.xe (l_lst (a_cons x_int (a_cons x_int (a_cons x_int (a_cons x_int a_nil)))))) a_nil) ⟨by omega, rfl, .inl ⟨_, by simp, by simp, rfl, rfl⟩⟩) (fun x hx => by simp only [List.mem_cons, List.not_mem_nil, or_false] at hx; rcases hx with rfl | rfl | rfl | rfl <;> exact ⟨_, rfl, by decide, by decide⟩) (Nat.le_refl _))⟩) fun ys xs m hxs hl hP hm => ?_) fun δ ⟨n3, en, hn3, he, hE, e⟩ => ?_
  · obtain ⟨en, es, he⟩ := ints_of hP
    exact ⟨m, en, by omega, by rw [← List.length_map (f := D.int), ← es, hl, hxs, List.length_map, List.length_range], he, by rw [es]; rfl⟩
  subst e
  have hok : (⟨dg, s, ts, en⟩ : Tal).Ok := ⟨by show 1 ≤ s.length; omega, by show s.length ≤ 9; omega, by show en.length = s.length; omega, fun m hm => by show SqT' s.length m; rw [hs]; exact (hT m hm).1, hts, hdg, fun m hm r hr x hx => ((hT m hm).2 r hr x hx).1, fun x hx => (hS x hx).1, fun x hx => (hE x hx).1, fun m hm r hr x hx => by have := ((hT m hm).2 r hr x hx).2; omega⟩
  have hba : (⟨dg, s, ts, en⟩ : Tal).Base := ⟨by show s.length ≤ 3; omega, fun x hx => (hS x hx).2, fun x hx => (hE x hx).2, fun m hm r hr x hx => ((hT m hm).2 r hr x hx).2⟩
  exact hy_ret (δ := fun n => [.K d c n, .d (.int (top : Int)), .d (.str (mkS dg)), .d (.int (sz : Int)), .d (.bl ir), .L (ts.map tabD), .un, .un, .un, .un, .un, .un, .un, .d (rowD s), .L (en.map .int)]) (i := 0) (P := fun x => x = wD ⟨dg, s, ts, en⟩) (k := n3) (xe_y (XM.xe (m_disp (ks := ["digits", "start", "tables", "ends"]) (xpp_cons (x_var 2) (xpp_cons (x_var 13) (xpp_cons (x_tupL W.b_tuple (o_L 5)) (xpp_cons (x_tupL W.b_tuple (o_L 14)) xpp_nil)))) (by decide) rfl (by decide))) rfl (Nat.le_refl _)) fun x m ex hm => ⟨m, rfl, by omega, _, hok, hba, by show s.length ≤ top; omega, ex⟩
end
end Tly
end
section
set_option Elab.async false
set_option linter.all false
set_option maxRecDepth 100000
set_option maxHeartbeats 2000000
/-! list(d.items()), dict(pairs). -/
namespace Dl
open PySem PySem.Spec PyProof.Rows L2
def kD : Key → D
  | .inl i => .int i
  | .inr s => .str s
theorem kD_rep {T : Addr} {H : Hp} {k : Key} : Rep T H (kD k) (kV k) := by
  cases k with
  | inl i => exact rep_int.mpr rfl
  | inr s => exact rep_str.mpr rfl
theorem kD_inv {T : Addr} {H : Hp} {k : Key} {v : V} (h : Rep T H (kD k) v) : v = kV k := by
  cases k with
  | inl i => exact rep_int.mp h
  | inr s => exact rep_str.mp h
def prD (q : Key × D) : D := .tup [kD q.1, q.2]
theorem reps_items {T : Addr} {H0 H' : Hp} : ∀ {ts : List Addr} {ks : List Key} {xs : List D} {vs : List V}, (∀ t ∈ ts, H0 t = H' t) → Reps T H0 xs vs → ks.length = xs.length → Paired (fun (t : Addr) (q : Key × V) => H' t = some (.tup [kV q.1, q.2])) ts (ks.zip vs) → Reps T H0 ((ks.zip xs).map prD) (ts.map V.ref)
  | [], ks, xs, vs, _, r, hl, hp => by
    have hn : ks.zip vs = [] := by cases hz : ks.zip vs with
      | nil => rfl
      | cons a b => rw [hz] at hp; cases hp
    have : ks = [] ∨ vs = [] := by
      cases ks with
      | nil => exact .inl rfl
      | cons k ks => cases vs with
        | nil => exact .inr rfl
        | cons v vs => simp at hn
    have hk : ks = [] := by
      rcases this with z | z
      · exact z
      · subst z
        have := r.length
        simp at this
        have : ks.length = 0 := by rw [hl]; exact this.symm
        exact List.length_eq_zero_iff.mp this
    subst hk
    exact reps_nil
  | t :: ts, ks, xs, vs, h0, r, hl, hp => by
    cases ks with
    | nil => cases hp
    | cons k ks => cases xs with
      | nil => simp at hl
      | cons x xs =>
        obtain ⟨v, us, rfl, r1, r2⟩ := r.cons_iff
        rw [List.zip_cons_cons] at hp
        cases hp with
        | cons e hp =>
          rw [List.zip_cons_cons, List.map_cons, List.map_cons]
          exact reps_cons (rep_tup.mpr ⟨t, [kV k, v], rfl, by rw [h0 t (by simp)]; exact e, reps_cons kD_rep (reps_cons r1 reps_nil)⟩) (reps_items (fun a ha => h0 a (by simp [ha])) r2 (by simpa using hl) hp)
section
variable {X : Cx} {F : Fm} {δ : List LV} {a b e : Expr} {es : List Expr} {x y z : D} {pos p p2 : Pos} {σ : L2.St} {H : Hp}
theorem x_items {apos cpos : Pos} {ks : List Key} {xs : List D} (hm : X.mg "list" = none) (he : XR X F e δ (.dk ks xs)) (hc : X.calm = true := by rfl) (hg : Gl X "list" := by rfl) (hbase : attributeBase e "items" X.env (eval e X.env) = eval e X.env := by rfl) (hline : (apos.endLine == cpos.line) = true := by rfl)
    (hs : starEach [.Call (.Attribute e "items" apos) [] [] cpos] X.env = (false, eval (.Call (.Attribute e "items" apos) [] [] cpos) X.env) :: starEach [] X.env := by rfl) : XE X F (.Call (.Name "list" p) [.Call (.Attribute e "items" apos) [] [] cpos] [] pos) δ (.lst ((ks.zip xs).map prD)) :=
  PE.imp (LiI.pe_listItems hc he hg hm (by decide +kernel) hbase hline hs) fun σ H Q ⟨H0, S, k⟩ => ⟨H0, S, fun v H1 H01 g1 r1 => by
    obtain ⟨q, vs, rfl, e1, hl, r⟩ := r1
    refine ⟨q, ks.zip vs, rfl, e1, fun H' p ts s hp hts hpt e2 hP => ?_⟩
    obtain ⟨H0', g2, h2⟩ := Gr.many (H0 := H01) g1.ex s (p :: ts) (fun a ha => by
      rcases List.mem_cons.mp ha with z | z
      · rw [z]; exact hp
      · exact hts a z)
    exact k _ H' H0' (g1.trans g2) (rep_lst.mpr ⟨p, ts.map V.ref, rfl, by rw [h2 p (by simp)]; exact e2, reps_items (fun t ht => h2 t (by simp [ht])) (Reps.mono g2.s0 _ _ r) hl hP⟩)⟩
theorem m_dictPairs {k1 k2 k3 k4 : Key} {x1 x2 x3 x4 y1 y3 : D} (hm : X.mg "dict" = none) (ha : XR X F a δ (.lst ([(k1, x1), (k2, x2), (k3, x3), (k4, x4), (k1, y1), (k3, y3)].map prD))) (hn : [k1, k2, k3, k4].Nodup) (hc : X.calm = true := by rfl) (hg : Gl X "dict" := by rfl) (h1 : starEach [a] X.env = (false, eval a X.env) :: starEach [] X.env := by rfl) :
    XM X F (.Call (.Name "dict" p) [a] [] pos) δ [k1, k2, k3, k4] [y1, x2, y3, x4] :=
  PE.imp (pe_callTy (call_dictP hc) hg hm (by decide +kernel) (pa_cons ha pa_nil h1) (by decide) (by decide) h1) fun σ H Q ⟨H0, S, k⟩ => ⟨H0, S, fun v H1 H01 g1 r1 => by
    obtain ⟨q, vs, rfl, e1, r⟩ := r1
    have tp : ∀ {kk : Key} {x : D} {v : V}, Rep F.T H01 (prD (kk, x)) v → ∃ t u, v = .ref t ∧ H01 t = some (.tup [kV kk, u]) ∧ Rep F.T H01 x u := fun {kk x v} h => by
      obtain ⟨t, us, rfl, e, rs⟩ := rep_tup.mp h
      obtain ⟨w, u, rfl, q1, q2⟩ := rs.two
      rw [kD_inv q1] at e
      exact ⟨t, u, rfl, e, q2⟩
    obtain ⟨w1, l1, rfl, a1, r⟩ := r.cons_iff
    obtain ⟨w2, l2, rfl, a2, r⟩ := r.cons_iff
    obtain ⟨w3, l3, rfl, a3, r⟩ := r.cons_iff
    obtain ⟨w4, l4, rfl, a4, r⟩ := r.cons_iff
    obtain ⟨w5, l5, rfl, a5, r⟩ := r.cons_iff
    obtain ⟨w6, rfl, a6⟩ := r.one
    obtain ⟨t1, u1, rfl, f1, b1⟩ := tp a1
    obtain ⟨t2, u2, rfl, f2, b2⟩ := tp a2
    obtain ⟨t3, u3, rfl, f3, b3⟩ := tp a3
    obtain ⟨t4, u4, rfl, f4, b4⟩ := tp a4
    obtain ⟨t5, u5, rfl, f5, b5⟩ := tp a5
    obtain ⟨t6, u6, rfl, f6, b6⟩ := tp a6
    have X1 := g1.ex
    refine ⟨q, [t1, t2, t3, t4, t5, t6], [(k1, u1), (k2, u2), (k3, u3), (k4, u4), (k1, u5), (k3, u6)], rfl, SqL.of e1, .cons (SqT.of (X1 _ _ f1)) (.cons (SqT.of (X1 _ _ f2)) (.cons (SqT.of (X1 _ _ f3)) (.cons (SqT.of (X1 _ _ f4)) (.cons (SqT.of (X1 _ _ f5)) (.cons (SqT.of (X1 _ _ f6)) .nil))))), fun p hp => ?_⟩
    have em : mergeK [] [(k1, u1), (k2, u2), (k3, u3), (k4, u4), (k1, u5), (k3, u6)] = [k1, k2, k3, k4].zip [u5, u2, u6, u4] := by
      simp only [List.nodup_cons, List.mem_cons, List.not_mem_nil, or_false, not_or] at hn
      obtain ⟨⟨n12, n13, n14⟩, ⟨n23, n24⟩, n34, _⟩ := hn
      simp [mergeK, putK, n12, n13, n14, n23, n24, n34, Ne.symm n12, Ne.symm n13, Ne.symm n14, Ne.symm n23, Ne.symm n24, Ne.symm n34]
    rw [em]
    exact k p _ _ H01 (g1.trans (Gr.laid g1.ex hp)) (g1.s.free hp) (g1.ex.free hp) upd_same rfl (reps_cons b5 (reps_cons b2 (reps_cons b6 (reps_cons b4 reps_nil))))⟩
end
end Dl
end
section
set_option Elab.async false
set_option linter.all false
set_option maxRecDepth 100000
set_option maxHeartbeats 2000000
namespace Tly
open PySem PySem.Spec PyProof.Rows L2 Dl
theorem degD_eq1 {t : Tal} (h : doubling t = []) : degD t = .int (topL t : Int) := by unfold degD; rw [if_pos h]
theorem degD_eq2 {t : Tal} (h : doubling t ≠ []) : degD t = .non := by unfold degD; rw [if_neg h]
theorem kind_eq1 {t : Tal} (h : doubling t = []) : kind t = (topL t : Int) := by unfold kind; rw [if_pos h]
theorem kind_eq2 {t : Tal} (h : doubling t ≠ []) : kind t = -1 := by unfold kind; rw [if_neg h]
section
variable {P : Program} {w : World} {K : PySem.W.Frag} {mg : Str → Option Value} {base : Heap}
def pre__law_code (ds : List D) (x : D) : Prop := ∃ (t : Tal), t.Ok ∧ ds = [wD t] ∧ x = t.d
theorem sc__law_code : FnScope ["_law_w"] ["_law_w"] (defScope s_law_code) := ⟨rfl, rfl, rfl, by decide +kernel, rfl, by decide +kernel, by decide +kernel⟩
theorem ok__law_code (W : Wd K mg) : Fn P w K mg base "_law_code" 7 ["_law_w"] (FSp (TA K) pre__law_code) := by
  refine mk_fn (d := d_law_code) W 68 63 rfl rfl rfl rfl rfl sc__law_code (fun ds x h => by obtain ⟨t, ok, rfl, rfl⟩ := h; rfl) (fun _ _ _ _ _ _ us hl => match us, hl with | [_], _ => rfl) fun f cdv A outer s0 H E Z ds x hp hr => ?_
  obtain ⟨t, ok, rfl, rfl⟩ := hp
  have nd := sc__law_code.nd
  have hu1 := Nat.lt_of_le_of_lt (Nat.add_le_add_left (show 1 ≤ 64 by decide) _) hr.units
  exact hss_one (hs_ret (x_make (fs := flds t) (ok_Tally W) (hr.mono (by omega)) (a_cons (x_dget (k := .inr "digits") hu1 (XE.r (x_var 0)) x_str rfl (by rfl)) (a_cons (x_dget (k := .inr "start") hu1 (XE.r (x_var 0)) x_str rfl (by rfl)) (a_cons (x_dget (k := .inr "tables") hu1 (XE.r (x_var 0)) x_str rfl (by rfl)) (a_cons (x_dget (k := .inr "ends") hu1 (XE.r (x_var 0)) x_str rfl (by rfl)) a_nil)))) ⟨t, ok, rfl, rfl⟩ rfl) rfl)
def pre__law_kind (ds : List D) (x : D) : Prop := ∃ (t : Tal), t.Ok ∧ ds = [t.d] ∧ x = .int (kind t)
theorem sc__law_kind : FnScope ["_law_code_here", "_law_told", "_law_far"] ["_law_code_here"] (defScope s_law_kind) := ⟨rfl, rfl, rfl, by decide +kernel, rfl, by decide +kernel, by decide +kernel⟩
theorem ok__law_kind (W : Wd K mg) : Fn P w K mg base "_law_kind" 9 ["_law_code_here"] (FSp (TA K) pre__law_kind) := by
  refine mk_fn (d := d_law_kind) W 69 64 rfl rfl rfl rfl rfl sc__law_kind (fun ds x h => by obtain ⟨t, ok, rfl, rfl⟩ := h; rfl) (fun _ _ _ _ _ _ us hl => match us, hl with | [_], _ => rfl) fun f cdv A outer s0 H E Z ds x hp hr => ?_
  obtain ⟨t, ok, rfl, rfl⟩ := hp
  have nd := sc__law_kind.nd
  by_cases de : doubling t = []
  · have ep : paperD t = pPaperD t := by unfold paperD; rw [if_pos de]
    have hnd := (dbl_nil ok).mp de
    have hc := (pc_facts ok hnd).1
    refine hss_seq [.d t.d, .d (pPaperD t), .d (.int (topL t : Int))] (fun Φ' h => hs_par 1 2 nd (.d (XE.eq (x_call (ok_judge_growth W) (hr.mono (by omega)) (a_cons (x_var 0) a_nil) ⟨t, ok, rfl, rfl⟩) ep)) (.d (XE.eq (x_call (ok_degree W) (hr.mono (by omega)) (a_cons (x_var 0) a_nil) ⟨t, ok, rfl, rfl⟩) (degD_eq1 de))) h) ?_
    refine hss_skip (XT.eq (XW.t (w_or (t_isnotB (x_call (ok_growth_holds W) (hr.mono (by omega)) (a_cons (x_var 0) (a_cons (x_var 1) a_nil)) ⟨t, ok, by rw [ep], rfl⟩) x_bl) fun _ => w_or1 (t_ne (x_call (ok_does_double W) (hr.mono (by omega)) (a_cons (x_var 0) a_nil) ⟨t, ok, rfl, rfl⟩) (x_isN (x_var 2))))) (by rw [de]; rfl)) ?_
    refine hss_skip (XT.eq (XW.t (w_or (t_ne (x_ixT (XE.r (x_var 1)) x_int rfl) (x_if (x := .str "power") (t_isN (x_var 2)) (fun z => by cases z) (fun _ => x_str))) fun _ => w_or1 (XW.t (w_and (t_notN (x_var 2)) fun _ => w_and1 (t_ne (x_lenT W.b_len (XE.r (x_ixT (XE.r (x_var 1)) x_int rfl))) (x_var 2)))))) (by rw [List.length_map, pieces_len, hc]; simp [Dl.isNon])) ?_
    exact hss_one (hs_ret (x_if (t_isN (x_var 2)) (fun z => by cases z) (fun _ => XE.eq (x_var 2) (by rw [kind_eq1 de]))) rfl)
  · have ep : paperD t = dPaperD t := by unfold paperD; rw [if_neg de]
    obtain ⟨s, w1, w2, w3, ed, okp⟩ := dPaper_eq ok de
    refine hss_seq [.d t.d, .d (.tup [.str "doubles", .str (mkS w1), .int s, .str (mkS w2), .str (mkS w3)]), .d .non] (fun Φ' h => hs_par 1 2 nd (.d (XE.eq (x_call (ok_judge_growth W) (hr.mono (by omega)) (a_cons (x_var 0) a_nil) ⟨t, ok, rfl, rfl⟩) (ep.trans ed))) (.d (XE.eq (x_call (ok_degree W) (hr.mono (by omega)) (a_cons (x_var 0) a_nil) ⟨t, ok, rfl, rfl⟩) (degD_eq2 de))) h) ?_
    have de2 : (doubling t).isEmpty = false := by
      cases q : doubling t with
      | nil => exact absurd q de
      | cons _ _ => rfl
    refine hss_skip (XT.eq (XW.t (w_or (t_isnotB (x_call (ok_growth_holds W) (hr.mono (by omega)) (a_cons (x_var 0) (a_cons (x_var 1) a_nil)) ⟨t, ok, by rw [ep, ed], rfl⟩) x_bl) fun _ => w_or1 (t_ne (x_call (ok_does_double W) (hr.mono (by omega)) (a_cons (x_var 0) a_nil) ⟨t, ok, rfl, rfl⟩) (x_isN (x_var 2))))) (by rw [de2]; rfl)) ?_
    refine hss_skip (XT.eq (XW.t (w_or (t_ne (x_ixT (XE.r (x_var 1)) x_int rfl) (x_if (x := .str "doubles") (t_isN (x_var 2)) (fun _ => x_str) (fun z => by cases z))) fun _ => w_or1 (XW.t (w_and (q := false) (t_notN (x_var 2)) fun z => by cases z)))) (by simp [Dl.isNon])) ?_
    exact hss_one (hs_ret (x_if (t_isN (x_var 2)) (fun _ => XE.eq (x_neg x_int) (by rw [kind_eq2 de])) (fun z => by cases z)) rfl)
end
end Tly
end
section
set_option Elab.async false
set_option linter.all false
set_option maxRecDepth 100000
set_option maxHeartbeats 2000000
namespace Tly
open PySem PySem.Spec PyProof.Rows L2 Dl
theorem ite_le' {p : Prop} [Decidable p] {x y z : Int} (h1 : x ≤ z) (h2 : y ≤ z) : (if p then x else y) ≤ z := by split <;> assumption
theorem dbl_kind {t : Tal} : (doubling t).isEmpty = decide (0 ≤ kind t) := by
  unfold kind
  cases q : doubling t with
  | nil => simp
  | cons a b => simp
theorem degD_nn {t : Tal} (h : 0 ≤ kind t) : degD t = .int (kind t) := by rw [degD_eq, if_neg (by omega)]
theorem eqv_intsL : ∀ (l : List Int), PyData.eqv (pdD (.lst (l.map .int))) (pdD (.lst (l.map .int))) = true
  | [] => by simp [pdD, pdDs, PyData.eqv, PyData.eqvAll]
  | i :: l => by
    have := eqv_intsL l
    simp only [pdD, pdDs, PyData.eqv, PyData.eqvAll, List.map_cons] at this ⊢
    simp [this]
section
variable {P : Program} {w : World} {K : PySem.W.Frag} {mg : Str → Option Value} {base : Heap}
def pre__law_added_right (ds : List D) (x : D) : Prop := ∃ (a b : Tal), a.Ok ∧ b.Ok ∧ a.dg = b.dg ∧ a.n + b.n ≤ 9 ∧ ds = [a.d, b.d, .int (kind a), .int (kind b)] ∧ x = .bl true
theorem sc__law_added_right : FnScope ["_law_code_here", "_law_mate", "_law_near", "_law_far", "_law_due", "_law_n"] ["_law_code_here", "_law_mate", "_law_near", "_law_far"] (defScope s_law_added_right) := ⟨rfl, rfl, rfl, by decide +kernel, rfl, by decide +kernel, by decide +kernel⟩
theorem ok__law_added_right (W : Wd K mg) : Fn P w K mg base "_law_added_right" 10 ["_law_code_here", "_law_mate", "_law_near", "_law_far"] (FSp (TA K) pre__law_added_right) := by
  refine mk_fn (d := d_law_added_right) W 70 65 rfl rfl rfl rfl rfl sc__law_added_right (fun ds x h => by obtain ⟨a, b, oa, ob, e, hs, rfl, rfl⟩ := h; rfl) (fun _ _ _ _ _ _ us hl => match us, hl with | [_, _, _, _], _ => rfl) fun f cdv A outer s0 H E Z ds x hp hr => ?_
  obtain ⟨a, b, oa, ob, e, hs, rfl, rfl⟩ := hp
  have nd := sc__law_added_right.nd
  have hk := kind_added oa ob e hs
  refine hss_seq [.d a.d, .d b.d, .d (.int (kind a)), .d (.int (kind b)), .d (.int (kind (addedT a b))), .un] (fun Φ' h => hs_set 4 nd (x_if (t_lt (x_min2 W.b_min (x_var 2) (x_var 3)) x_int) (fun q => XE.eq (x_neg x_int) (congrArg D.int (by
      have := of_decide_eq_true q
      rw [hk, if_pos (by omega)]))) (fun q => XE.eq (x_max2 W.b_max (x_var 2) (x_var 3)) (congrArg D.int (by
      have := of_decide_eq_false q
      rw [hk, if_neg (show ¬ min (kind a) (kind b) < 0 by omega)]
      omega)))) h) ?_
  refine hss_skip (XT.eq (XW.t (w_or (t_ne (x_call (ok__law_kind W) (hr.mono (by omega)) (a_cons (x_call (ok_added W) (hr.mono (by omega)) (a_cons (x_var 0) (a_cons (x_var 1) a_nil)) ⟨a, b, oa, ob, e, hs, rfl, rfl⟩) a_nil) ⟨addedT a b, added_ok oa ob e hs, rfl, rfl⟩) (x_var 4)) fun _ => w_or1 (t_ne (x_call (ok__law_kind W) (hr.mono (by omega)) (a_cons (x_call (ok_turned W) (hr.mono (by omega)) (a_cons (x_var 0) a_nil) ⟨a, oa, rfl, rfl⟩) a_nil) ⟨turnedT a, turned_ok oa, rfl, rfl⟩) (x_var 2)))) (by rw [kind_turned oa]; simp)) ?_
  refine hss_one (hs_ret (x_eqD 1 1 hr.units (XE.r (XL.xe (l_map [("_law_n", 5)] (.one 5) ([1, 7, 0] : List Int) (fun i => .int i) (fun i => .int (kind (timesT i a))) nd (i_tup (x_tup (a_cons x_int (a_cons x_int (a_cons x_int a_nil))))) (blkOk_by (by kernel_rfl)) (fun _ _ _ _ _ => g_name 5 nd) (fun i hi => by
      have hi2 : 0 ≤ i ∧ i ≤ 1000 := by simp only [List.mem_cons, List.not_mem_nil, or_false] at hi; omega
      exact ⟨_, rfl, fun _ _ _ _ _ => x_call (ok__law_kind W) (hr.mono (by omega)) (a_cons (x_call (ok_times W) (hr.mono (by omega)) (a_cons (x_var 5) (a_cons (x_var 0) a_nil)) ⟨a, i, oa, hi2.1, hi2.2, rfl, rfl⟩) a_nil) ⟨timesT i a, times_ok hi2.1 oa, rfl, rfl⟩⟩) (by simp)))) (XE.r (XL.xe (l_lst (a_cons (x_var 2) (a_cons (x_var 2) (a_cons x_int a_nil)))))) (okDs_ints (ns := [kind (timesT 1 a), kind (timesT 7 a), kind (timesT 0 a)])) (okDs_ints (ns := [kind a, kind a, 0])) (q := true) ?_) rfl)
  have e1 : kind (timesT 1 a) = kind a := kind_times (by decide) oa
  have e7 : kind (timesT 7 a) = kind a := kind_times (by decide) oa
  have e0 : kind (timesT 0 a) = 0 := kind_zero oa
  show PyData.eqv (pdD (.lst [.int (kind (timesT 1 a)), .int (kind (timesT 7 a)), .int (kind (timesT 0 a))])) (pdD (.lst [.int (kind a), .int (kind a), .int 0])) = true
  rw [e1, e7, e0]
  exact eqv_intsL [kind a, kind a, 0]
def pre__law_product_right (ds : List D) (x : D) : Prop := ∃ (a b : Tal), a.Ok ∧ b.Ok ∧ a.Base ∧ b.Base ∧ a.dg = b.dg ∧ a.n * b.n ≤ 9 ∧ a.n * a.n ≤ 9 ∧ ds = [a.d, b.d, .int (kind a), .int (kind b)] ∧ x = .bl true
theorem sc__law_product_right : FnScope ["_law_code_here", "_law_mate", "_law_near", "_law_far", "_law_twice", "_law_due", "_law_kind_here"] ["_law_code_here", "_law_mate", "_law_near", "_law_far"] (defScope s_law_product_right) := ⟨rfl, rfl, rfl, by decide +kernel, rfl, by decide +kernel, by decide +kernel⟩
theorem ok__law_product_right (W : Wd K mg) : Fn P w K mg base "_law_product_right" 10 ["_law_code_here", "_law_mate", "_law_near", "_law_far"] (FSp (TA K) pre__law_product_right) := by
  refine mk_fn (d := d_law_product_right) W 71 66 rfl rfl rfl rfl rfl sc__law_product_right (fun ds x h => by obtain ⟨a, b, oa, ob, ba, bb, e, hs, h2, rfl, rfl⟩ := h; rfl) (fun _ _ _ _ _ _ us hl => match us, hl with | [_, _, _, _], _ => rfl) fun f cdv A outer s0 H E Z ds x hp hr => ?_
  obtain ⟨a, b, oa, ob, ba, bb, e, hs, h2, rfl, rfl⟩ := hp
  have nd := sc__law_product_right.nd
  have hk := kind_twice oa ba h2
  have o2 := mul_ok oa oa ba ba rfl h2
  have o3 := mul_ok oa ob ba bb e hs
  have hl : (mulT a a).n ≤ 9 := o2.sml
  refine hss_seq [.d a.d, .d b.d, .d (.int (kind a)), .d (.int (kind b)), .d (mulT a a).d, .d (.int (kind (mulT a a))), .un] (fun Φ' h => hs_par 4 5 nd (.d (x_call (ok_multiplied W) (hr.mono (by omega)) (a_cons (x_var 0) (a_cons (x_var 0) a_nil)) ⟨a, a, oa, oa, ba, ba, rfl, h2, rfl, rfl⟩)) (.d (x_if (t_lt (x_var 2) x_int) (fun q => XE.eq (x_neg x_int) (congrArg D.int (by
      have := of_decide_eq_true q
      rw [hk, if_pos (by omega)]))) (fun q => XE.eq (x_mul x_int (x_var 2) (.inl ⟨by decide, by decide⟩)) (congrArg D.int (by
      have := of_decide_eq_false q
      rw [hk, if_neg (by omega)]))))) h) ?_
  refine hss_skip (XT.eq (XW.t (w_and (t_lt (x_lenI (ok_me_len W) (hr.mono (by omega)) W.b_len (x_var 4) ⟨mulT a a, o2, rfl, rfl⟩ (by omega) (by omega)) x_int) fun _ => w_and1 (t_ne (x_call (ok__law_kind W) (hr.mono (by omega)) (a_cons (x_var 4) a_nil) ⟨mulT a a, o2, rfl, rfl⟩) (x_var 5)))) (by simp)) ?_
  refine hss_skip (XT.eq (XW.t (w_or (q := false) (t_ne (x_call (ok_does_double W) (hr.mono (by omega)) (a_cons (x_var 4) a_nil) ⟨mulT a a, o2, rfl, rfl⟩) (x_lt (x_var 2) x_int)) fun _ => w_or1 (XT.eq (XW.t (w_and (q := false) (t_ge (x_var 2) x_int) fun q => w_and1 (XT.eq (t_ne (XE.eq (x_call (ok_degree W) (hr.mono (by omega)) (a_cons (x_var 4) a_nil) ⟨mulT a a, o2, rfl, rfl⟩) (degD_nn (by have := of_decide_eq_true q; rw [hk, if_neg (by omega)]; omega))) (x_var 5)) (by simp)))) (by simp)))) (by
      rw [dbl_kind, hk]
      by_cases z : kind a < 0
      · rw [if_pos z]; simp [z]
      · rw [if_neg z]; simp [z]; omega)) ?_
  refine hss_seq [.d a.d, .d b.d, .d (.int (kind a)), .d (.int (kind b)), .d (mulT a a).d, .d (.int (kind (mulT a a))), .d (.int (kind (mulT a b)))] (fun Φ' h => hs_set 6 nd (x_call (ok__law_kind W) (hr.mono (by omega)) (a_cons (x_call (ok_multiplied W) (hr.mono (by omega)) (a_cons (x_var 0) (a_cons (x_var 1) a_nil)) ⟨a, b, oa, ob, ba, bb, e, hs, rfl, rfl⟩) a_nil) ⟨mulT a b, o3, rfl, rfl⟩) h) ?_
  refine hss_one (hs_ret (XE.eq (x_and (x_notN (x_var 6)) fun _ => x_one (x_or (x_lt (x_min2 W.b_min (x_var 2) (x_var 3)) x_int) fun _ => x_one (x_lele x_int (x_var 6) (x_add (x_var 2) (x_var 3))))) (congrArg D.bl ?_)) rfl)
  by_cases z : 0 ≤ min (kind a) (kind b)
  · have := kind_mul oa ob ba bb e hs z
    simp [Dl.isNon, this.1, this.2]
  · have z2 : (if kind b < kind a then kind b else kind a) < 0 := by omega
    simp [Dl.isNon, z2]
def pre__law_met_right (ds : List D) (x : D) : Prop := ∃ (a b : Tal), a.Ok ∧ b.Ok ∧ a.Base ∧ b.Base ∧ a.dg = b.dg ∧ a.n + b.n ≤ 9 ∧ ds = [a.d, b.d, .int (kind a), .int (kind b)] ∧ x = .bl true
theorem stD_emp {l : List Nat} : (stD l).isEmpty = l.isEmpty := by cases l <;> rfl
theorem okD_st {l : List Nat} : okD 1 (.tup (stD l)) = true := by rw [stD_ints]; exact okDs_ints
theorem sc__law_met_right : FnScope ["_law_code_here", "_law_mate", "_law_near", "_law_far", "_law_kind_here", "_law_is_near", "_law_is_far"] ["_law_code_here", "_law_mate", "_law_near", "_law_far"] (defScope s_law_met_right) := ⟨rfl, rfl, rfl, by decide +kernel, rfl, by decide +kernel, by decide +kernel⟩
theorem ok__law_met_right (W : Wd K mg) : Fn P w K mg base "_law_met_right" 10 ["_law_code_here", "_law_mate", "_law_near", "_law_far"] (FSp (TA K) pre__law_met_right) := by
  refine mk_fn (d := d_law_met_right) W 72 67 rfl rfl rfl rfl rfl sc__law_met_right (fun ds x h => by obtain ⟨a, b, oa, ob, ba, bb, e, hs, rfl, rfl⟩ := h; rfl) (fun _ _ _ _ _ _ us hl => match us, hl with | [_, _, _, _], _ => rfl) fun f cdv A outer s0 H E Z ds x hp hr => ?_
  obtain ⟨a, b, oa, ob, ba, bb, e, hs, rfl, rfl⟩ := hp
  have nd := sc__law_met_right.nd
  obtain ⟨k1, k2⟩ := kind_met oa ob ba bb e hs
  have om := met_ok oa ob ba bb e hs
  let ia : Bool := !(useful a).isEmpty
  let ib : Bool := !(useful b).isEmpty
  have ha : ia = true ↔ useful a ≠ [] := by show (!(useful a).isEmpty) = true ↔ _; cases useful a <;> simp
  have hb : ib = true ↔ useful b ≠ [] := by show (!(useful b).isEmpty) = true ↔ _; cases useful b <;> simp
  refine hss_seq [.d a.d, .d b.d, .d (.int (kind a)), .d (.int (kind b)), .d (.int (kind (metT a b))), .d (.bl ia), .d (.bl ib)] (fun Φ' h => hs_par3 4 5 6 nd (vs_cons (XE.v (x_call (ok__law_kind W) (hr.mono (by omega)) (a_cons (x_call (ok_met W) (hr.mono (by omega)) (a_cons (x_var 0) (a_cons (x_var 1) a_nil)) ⟨a, b, oa, ob, ba, bb, e, hs, rfl, rfl⟩) a_nil) ⟨metT a b, om, rfl, rfl⟩))
    (vs_cons (XE.v (x_neD 1 1 hr.units (XE.r (x_call (ok_useful W) (hr.mono (by omega)) (a_cons (x_var 0) a_nil) ⟨a, oa, rfl, rfl⟩)) (XE.r (x_tup a_nil)) okD_st (by simp [okD, okDs]) (eqv_nil.trans stD_emp))) (vs_cons (XE.v (x_neD 1 1 hr.units (XE.r (x_call (ok_useful W) (hr.mono (by omega)) (a_cons (x_var 1) a_nil) ⟨b, ob, rfl, rfl⟩)) (XE.r (x_tup a_nil)) okD_st (by simp [okD, okDs]) (eqv_nil.trans stD_emp))) vs_nil))) h) ?_
  refine hss_skip (XT.eq (XW.t (w_or (t_isN (x_var 4)) fun _ => w_or1 (t_ne (x_lt (x_var 4) x_int) (x_or (x_and (x_lt (x_var 2) x_int) fun _ => x_one (x_var 6)) fun _ => x_one (x_and (x_lt (x_var 3) x_int) fun _ => x_one (x_var 5)))))) (by
      have : decide (kind (metT a b) < 0) = (decide (kind a < 0) && ib || decide (kind b < 0) && ia) := by
        rw [Bool.eq_iff_iff]
        simp only [decide_eq_true_eq, Bool.or_eq_true, Bool.and_eq_true, k1, ha, hb]
      rw [this]
      simp [Dl.isNon])) ?_
  refine hss_guard (t_lt (x_var 4) x_int) (fun _ => hss_one (hs_ret x_bl rfl)) fun q => ?_
  have z := of_decide_eq_false q
  obtain ⟨m1, m2, m3⟩ := k2 (by omega)
  refine hss_one (hs_ret (XE.eq (x_and (x_ge (x_var 4) (x_max2 W.b_max (x_mul (x_var 2) (x_intB W.b_int (x_var 6)) (.inr (by cases ib <;> exact ⟨by decide, by decide⟩))) (x_mul (x_var 3) (x_intB W.b_int (x_var 5)) (.inr (by cases ia <;> exact ⟨by decide, by decide⟩))))) fun _ => x_one (x_le (x_var 4) (x_add (x_add (x_max2 W.b_max x_int (x_var 2)) (x_max2 W.b_max x_int (x_var 3))) x_int))) (congrArg D.bl ?_)) rfl)
  have c1 : kind a * (if ib = true then 1 else 0) ≤ kind (metT a b) := by
    by_cases y : ib = true
    · rw [if_pos y]; have := m1 (hb.mp y); omega
    · rw [if_neg y]; omega
  have c2 : kind b * (if ia = true then 1 else 0) ≤ kind (metT a b) := by
    by_cases y : ia = true
    · rw [if_pos y]; have := m2 (ha.mp y); omega
    · rw [if_neg y]; omega
  rw [Bool.and_eq_true, decide_eq_true_eq, decide_eq_true_eq]
  exact ⟨ite_le' c2 c1, by omega⟩
end
end Tly
end
section
set_option Elab.async false
set_option linter.all false
set_option maxRecDepth 100000
set_option maxHeartbeats 2000000
/-! The last words: ifs that hand back, and, a start from any frame of data. -/
namespace Dl
open PySem PySem.Spec PyProof.Rows L2
section
variable {X : Cx} {F : Fm} {δ : Nat → List LV} {δ0 : List LV} {a b c e : Expr} {es : List Expr} {x y z : D} {pos p p2 : Pos} {σ : L2.St} {H : Hp} {i n k k1 : Nat} {Φ : DE} {P Pa Pb : D → Prop} {sa rest : List Stmt} {R : D → List LV → Prop}
theorem hy_if {q : Bool} (hc : XT X F c δ0 q) (h1 : q = true → HSY X F sa δ0 R) (h2 : q = false → HSY X F rest δ0 R) : HSY X F (.If c sa [] pos :: rest) δ0 R := by
  cases q with
  | true => exact PSs.imp (pss_cons (ps_if hc (h1 rfl) (u := tNever) pss_never) (u := tNever) pss_never) fun E σ H ⟨H0, S, k⟩ => ⟨H0, S, fun H' H0' g => ⟨H0', S.gr g, fun v σ' H'' H0'' δ' x s => k v σ' H'' H0'' δ' x (g.s0.trans s)⟩⟩
  | false => exact PSs.imp (pss_cons (ps_if hc (t := tNever) pss_never pss_nil) (h2 rfl)) fun E σ H ⟨H0, S, k⟩ => ⟨H0, S, fun H' H0' g => ⟨H0', S.gr g, fun v σ' H'' H0'' δ' x s => k v σ' H'' H0'' δ' x (g.s0.trans s)⟩⟩
theorem y_and (h : XE X F a (δ n) (.bl true)) (h2 : YE X F (.BoolOp .And (b :: es) pos) δ i n P k) : YE X F (.BoolOp .And (a :: b :: es) pos) δ i n P k :=
  PE.imp (pe_and h h2) fun σ H Q ⟨H0, S, c⟩ => ⟨H0, S, fun v H' H0' g r => ⟨true, rep_bl.mp r, H0', S.gr g, fun v H'' H0'' x n' q1 p1 g' S' r => c v H'' H0'' x n' q1 p1 ((g.y).trans g') S' r⟩⟩
theorem y_and1 (h : YE X F a δ i n P k) : YE X F (.BoolOp .And [a] pos) δ i n P k := pe_one h
def tAnyF (X : Cx) (T : Addr) (Pg : Program) (w : World) (sts : List Stmt) : TS := fun E σ H => ∃ B Z δ R, HSY X ⟨T, Pg, w, B, Z⟩ sts δ R ∧ tSY ⟨T, Pg, w, B, Z⟩ δ R E σ H
theorem any_f {T : Addr} {Pg : Program} {w : World} {sts : List Stmt} : PSs X sts (tAnyF X T Pg w sts) := ⟨fun pins s σ H E I ⟨B, Z, δ, R, h, q⟩ => h.run pins s σ H E I q⟩
/-- what is known behind _law_deck: slots and objects -/
def dkG (B : Hp) : V → Hp → Prop := fun v H' => ∃ (d c : Addr) (m : Int) (cs : List Int), v = .ref d ∧ B d = none ∧ B c = none ∧ c ≠ d ∧ Same B H' ∧ H' d = some (.dK (dKvs c m 0)) ∧ H' c = some (.lst (cs.map V.int)) ∧ 0 ≤ m ∧ m < 2147483587 ∧ cs.length ≤ 64
def tSD (F : Fm) (δ : List LV) : TS := fun E σ H => ∃ H0, SRep F H0 σ H δ ∧ ∀ v H', dkG F.B v H' → E.rt v H'
abbrev HSD (X : Cx) (F : Fm) (sts : List Stmt) (δ : List LV) : Prop := PSs X sts (tSD F δ)
def tAnySD (X : Cx) (F : Fm) (sts : List Stmt) : TS := fun E σ H => ∃ δ, HSD X F sts δ ∧ tSD F δ E σ H
theorem any_sd {sts : List Stmt} : PSs X sts (tAnySD X F sts) := ⟨fun pins s σ H E I ⟨δ, h, q⟩ => h.run pins s σ H E I q⟩
theorem hd_cons {st : Stmt} (M : List LV → Prop) (h : HS X F st δ0 { nx := M, rt := fun _ => False }) (k : ∀ δ', M δ' → HSD X F rest δ') : HSD X F (st :: rest) δ0 :=
  PSs.imp (pss_cons h (any_sd (F := F))) fun E σ H ⟨H0, S, c⟩ => ⟨H0, S, ⟨fun σ' H' H0' δ' s S' m => ⟨δ', k δ' m, H0', S', c⟩, fun _ _ _ _ _ _ _ _ _ z => z.elim, fun _ _ _ _ _ _ z => z.elim, fun _ _ _ _ _ _ z => z.elim⟩⟩
theorem hd_frL (j : Nat) {xs : List D} (h : HSD X F rest (δ0.set j (.d (.lst xs)))) (hi : δ0[j]? = some (.L xs) := by rfl) : HSD X F rest δ0 :=
  PSs.imp h fun E σ H ⟨H0, S, k⟩ => by
    obtain ⟨H0', s0, S'⟩ := S.freeze hi rfl ⟨fun _ z => (by cases z), fun _ _ z => (by cases z), fun _ _ _ z => (by cases z)⟩
    exact ⟨H0', S', k⟩
theorem hd_ret {cs : List Int} {m : Int} (he : XM X F e δ0 [.inr "cells", .inr "mixed", .inr "draws"] [.lst (cs.map .int), .int m, .int 0]) (hZ : ∀ b, F.Z b = none) (m0 : 0 ≤ m) (m1 : m < 2147483587) (hl : cs.length ≤ 64) : HSD X F [.Return (some e) pos] δ0 :=
  pss_one (PS.imp (ps_ret he) fun E σ H ⟨H0, S, k⟩ => ⟨H0, S, fun p vs H' H0' g hp h0 hv _ r => by
    obtain ⟨v1, r1, rfl, a1, r⟩ := r.cons_iff
    obtain ⟨v2, v3, rfl, a2, a3⟩ := r.two
    rw [rep_int.mp a2, rep_int.mp a3] at hv
    obtain ⟨c, us, rfl, e1, rs⟩ := rep_lst.mp a1
    rw [Reps.ints rs] at e1
    have hB : F.B c = none := by
      rcases g.nw _ _ e1 with z | z
      · rcases S.fr _ _ z with y | y
        · rw [hZ] at y; cases y
        · exact y
      · exact S.bb.free z
    exact k _ H' ⟨p, c, m, cs, rfl, S.bb.free hp, hB, (fun z => by subst z; rw [h0] at e1; cases e1), S.bb.trans g.s, hv, g.ex _ _ e1, m0, m1, hl⟩⟩)
end
end Dl
end
section
set_option Elab.async false
set_option linter.all false
set_option maxRecDepth 100000
set_option maxHeartbeats 2000000
namespace Tly
open PySem PySem.Spec PyProof.Rows L2 Dl
theorem join_sg : ∀ (u : List Nat), Txt.join ("" : Str) (u.map sg) = mkS u := by
  intro u
  rw [TL.join_eq]
  induction u with
  | nil => rfl
  | cons c u ih =>
    cases u with
    | nil => rfl
    | cons c2 r =>
      have e : Str.join ("" : Str) ((c :: c2 :: r).map sg) = sg c ++ ("" : Str) ++ Str.join ("" : Str) ((c2 :: r).map sg) := rfl
      rw [e, ih]
      show (⟨(#[c] ++ #[]) ++ (c2 :: r).toArray⟩ : Str) = ⟨(c :: c2 :: r).toArray⟩
      congr 1
      simp
theorem strs_of {S : List Nat} : ∀ {ys : List D}, (∀ y ∈ ys, ∃ ch ∈ S, y = .str (sg ch)) → ∃ u : List Nat, ys = (u.map sg).map .str ∧ (∀ c ∈ u, c ∈ S) ∧ u.length = ys.length
  | [], _ => ⟨[], rfl, by simp, rfl⟩
  | y :: ys, h => by
    obtain ⟨ch, hc, e⟩ := h y (by simp)
    obtain ⟨u, e2, h3, h4⟩ := strs_of (S := S) (ys := ys) fun z hz => h z (by simp [hz])
    exact ⟨ch :: u, by rw [e, e2]; rfl, fun x hx => by
      rcases List.mem_cons.mp hx with z | z
      · subst z; exact hc
      · exact h3 x z, by simp [h4]⟩
section
variable {P : Program} {w : World} {K : PySem.W.Frag} {mg : Str → Option Value} {base : Heap}
def pre_cut_right (n : Nat) (ds : List D) (R : D → Prop) (k : Nat) : Prop := ∃ a : Tal, a.Ok ∧ a.Base ∧ n + 10 ≤ 100000 ∧ ds = [a.d, .int (kind a)] ∧ k = n + 10 ∧ R = fun z => z = .bl true
theorem sc_law_cut_right : FnScope ["_law_deck_here", "_law_code_here", "_law_near", "_law_page", "_law_mate", "_law_kind_here", "_law_k"] ["_law_deck_here", "_law_code_here", "_law_near"] (defScope s_law_cut_right) := ⟨rfl, rfl, rfl, by decide +kernel, rfl, by decide +kernel, by decide +kernel⟩
theorem ok_law_cut_right (W : Wd K mg) : Fn P w K mg base "_law_cut_right" 10 ["_law_deck_here", "_law_code_here", "_law_near"] (FSpY (TA K) pre_cut_right) := by
  refine mk_fnG (d := d_law_cut_right) W 73 68 rfl rfl rfl rfl rfl (fun _ _ _ _ _ _ us hl => match us, hl with | [_, _, _], _ => rfl) fun f fd F => ?_
  have S := sc_law_cut_right
  refine fn_okY (k := 9) F S (fun j ds R m h => by obtain ⟨a, oa, ba, hj, rfl, rfl, rfl⟩ := h; rfl) fun cdv A outer s0 H E B Z d c j ds R m hp hr => ?_
  obtain ⟨a, oa, ba, hj, rfl, rfl, rfl⟩ := hp
  have nd := S.nd
  have hdl := oa.dlen
  let PL : List Str → Prop := fun zs => ∃ u : List Nat, zs = u.map sg ∧ (∀ c ∈ u, c ∈ a.dg) ∧ u.length ≤ 3
  refine hy_cons (fun δ => ∃ (n : Nat) (u : List Nat), n ≤ j + 4 ∧ (∀ c ∈ u, c ∈ a.dg) ∧ u.length ≤ 3 ∧ δ = [.K d c n, .d a.d, .d (.int (kind a)), .d (.str (mkS u)), .un, .un, .un])
    (hs_setY 3 (δ := fun n => [.K d c n, .d a.d, .d (.int (kind a)), .un, .un, .un, .un]) (i := 0) (P := fun z => ∃ zs, PL zs ∧ z = .str (Txt.join ("" : Str) zs)) (k := (j + 1) + 3 * 1) nd
      (y_join (PL := PL) (YE.mono (y_lc (XP := fun xs => (xs.length : Int) ≤ 3 ∧ ∃ r : Int, xs = upto r) (Pe := fun z => ∃ ch ∈ a.dg, z = .str (sg ch)) (kk := 1) (L := 3) (k0 := j + 1) [("_law_k", 6)] (.one 6) nd ⟨fun _ => rfl, fun _ _ => rfl⟩
        (yi_range (hi := 3) W.b_range (y_call ⟨fun _ => rfl, fun _ _ => rfl⟩ (ok_law_draw W) (hr.mono (by omega)) (a_cons x_int a_nil) ⟨4, by omega, by omega, by omega, rfl, rfl, rfl⟩) (by decide)) (blkOk_by (by kernel_rfl)) (fun xs hxs => by omega) (fun _ _ _ _ _ => g_name 6 nd)
        (fun xs hxs x hx => ⟨fun n => [.K d c n, .d a.d, .d (.int (kind a)), .un, .un, .un, .d x], fun _ => rfl, ⟨fun _ => rfl, fun _ _ => rfl⟩, fun n1 hn1 _ _ _ _ _ => y_call ⟨fun _ => rfl, fun _ _ => rfl⟩ (ok_law_pick W) (hr.mono (by omega)) (a_cons (x_fld 0 W.cls W.na_digits (x_var 1)) a_nil) ⟨by omega, rfl, .inr ⟨a.dg, by omega, by omega, rfl, rfl⟩⟩⟩))
        (fun z ⟨ys, xs, ez, hxs, hl, hP⟩ => by
          obtain ⟨u, e1, e2, e3⟩ := strs_of hP
          exact ⟨u.map sg, by rw [ez, e1], u, rfl, e2, by omega⟩) (Nat.le_refl _))
        (fun zs ⟨u, e1, e2, e3⟩ => by
          rw [e1, List.map_map, List.length_map]
          have : (u.map ((fun x : Str => x.length) ∘ sg)).sum = u.length := by
            clear e1 e2 e3
            induction u with
            | nil => rfl
            | cons x u ih => rw [List.map_cons, List.sum_cons, ih]; show 1 + u.length = u.length + 1; omega
          rw [this]
          show u.length + u.length * 0 ≤ 16777216
          omega))
      fun x m ⟨zs, ⟨u, e1, e2, e3⟩, ex⟩ hm => ⟨m, u, by omega, e2, e3, by rw [ex, e1, join_sg]; rfl⟩) fun δ ⟨n, u, hn, hu, hul, e⟩ => ?_
  subst e
  have hbad : ∀ t ∈ [aheadT a u, behindT a u], t.Ok ∧ (0 ≤ kind a → 0 ≤ kind t ∧ kind t ≤ kind a) := fun t ht => by
    rcases List.mem_cons.mp ht with z | z
    · subst z; exact ⟨ahead_ok oa hu, kind_ahead oa hu⟩
    · rw [List.mem_singleton.mp z]; exact ⟨behind_ok oa hu, kind_behind oa hu⟩
  refine hy_cons (fun δ => ∃ (v4 v5 : LV), δ = [.K d c n, .d a.d, .d (.int (kind a)), .d (.str (mkS u)), v4, v5, .un])
    (hs_forT (t := .one 4) [aheadT a u, behindT a u] Tal.d (fun i δ => ∃ (v4 v5 : LV), δ = [.K d c n, .d a.d, .d (.int (kind a)), .d (.str (mkS u)), v4, v5, .un])
      (i_tup (x_tup (a_cons (x_call (ok_ahead W) (hr.mono (by omega)) (a_cons (x_var 1) (a_cons (x_var 3) a_nil)) ⟨a, u, oa, hu, by omega, rfl, rfl⟩) (a_cons (x_call (ok_behind W) (hr.mono (by omega)) (a_cons (x_var 1) (a_cons (x_var 3) a_nil)) ⟨a, u, oa, ba, hu, by omega, rfl, rfl⟩) a_nil)))) (g_name 4 nd) ⟨_, _, rfl⟩ (fun i δ t ht ⟨v4, v5, e⟩ => ?_) (fun δ h => h)) fun δ ⟨v4, v5, e⟩ => ?_
  · subst e
    obtain ⟨ot, hk⟩ := hbad t (List.mem_of_getElem? ht)
    refine ⟨_, rfl, ?_⟩
    refine hss_seq [.K d c n, .d a.d, .d (.int (kind a)), .d (.str (mkS u)), .d t.d, .d (.int (kind t)), .un] (fun Φ h => hs_set 5 nd (x_call (ok__law_kind W) (hr.mono (by omega)) (a_cons (x_var 4) a_nil) ⟨t, ot, rfl, rfl⟩) h) ?_
    refine hss_skip (XT.eq (XW.t (w_or (t_isN (x_var 5)) fun _ => w_or (XW.t (w_and (t_ge (x_var 2) x_int) fun _ => w_and1 (t_not (t_lele x_int (x_var 5) (x_var 2))))) fun _ => w_or1 (t_val (x_call (ok_grows_more W) (hr.mono (by omega)) (a_cons (x_var 4) (a_cons (x_var 1) a_nil)) ⟨t, a, ot, oa, hk, rfl, rfl⟩)))) (by
      by_cases z : 0 ≤ kind a
      · have := hk z
        simp [Dl.isNon, this.1, this.2]
      · simp [Dl.isNon, z])) ?_
    exact hss_nil ⟨_, _, rfl⟩
  · subst e
    exact hy_ret (δ := fun n => [.K d c n, .d a.d, .d (.int (kind a)), .d (.str (mkS u)), v4, v5, .un]) (i := 0) (P := fun z => z = .bl true) (k := n) (xe_y x_bl rfl (Nat.le_refl _)) fun x m ex hm => ⟨m, rfl, by omega, ex⟩
/-- _law_deck -/
def spDeck (K : PySem.W.Frag) : Sp := fun vs H Q _ => ∃ (a : Addr) (ns : List Int), vs = [.ref a] ∧ SqL K H a (ns.map V.int) ∧ ∀ (d c : Addr) (H' : Hp) (m : Int), (∀ b o, H b = some o → H' b = some o) → H d = none → H c = none → c ≠ d → H' d = some (.dK (dKvs c m 0)) → 0 ≤ m → m < 2147483587 → H' c = some (.ext (cellsR c)) → Q (.ref d) H'
abbrev NDeck : List Str := ["_law_script", "_law_cells", "_law_mixed", "_law_cell"]
theorem sc_law_deck : FnScope NDeck ["_law_script"] (defScope s_law_deck) := ⟨rfl, rfl, rfl, by decide +kernel, rfl, by decide +kernel, by decide +kernel⟩
theorem ok_law_deck (W : Wd K mg) : Fn P w K mg base "_law_deck" 1 ["_law_script"] (spDeck K) := by
  refine mk_fnG (d := d_law_deck) W 64 59 rfl rfl rfl rfl rfl (fun _ _ _ _ _ _ us hl => match us, hl with | [_], _ => rfl) fun f fd F => ?_
  have S := sc_law_deck
  have nd := S.nd
  refine F.ok S (fun vs H Q E ⟨a, ns, e, _⟩ => by rw [e]; rfl) fun cdv A outer s H vs Q E hr hsp => ?_
  obtain ⟨a, ns, rfl, hq, cc⟩ := hsp
  let F0 : Fm := ⟨TA K, P, w, H, fun _ => none⟩
  let X := cxF P w K mg base NDeck d_law_deck.qual d_law_deck.scope f cdv A outer s H E
  have tail : ∀ (δ : List LV), δ = [.un, .L ((ns.take 63).map .int), .d (.int 10870089), .un] → HSD X F0 (d_law_deck.body.drop 1) δ := by
    intro δ e
    subst e
    refine hd_frL 1 ?_
    refine hd_cons (fun δ => ∃ (m : Int) (u : LV), 0 ≤ m ∧ m < 2147483587 ∧ δ = [.un, .d (.lst ((ns.take 63).map .int)), .d (.int m), u])
      (hs_forT (t := .one 3) (ns.take 63) (fun i => .int i) (fun i δ => ∃ (m : Int) (u : LV), 0 ≤ m ∧ m < 2147483587 ∧ δ = [.un, .d (.lst ((ns.take 63).map .int)), .d (.int m), u]) (i_list (x_var 1)) (g_name 3 nd) ⟨10870089, .un, by decide, by decide, rfl⟩ (fun i δ x hx ⟨m, u, h0, h1, e⟩ => ?_) (fun δ h => h)) fun δ ⟨m, u, h0, h1, e⟩ => ?_
    · subst e
      refine ⟨_, rfl, ?_⟩
      exact hss_one (hs_set 2 nd (x_mod (x_intI W.b_int (x_add (x_add (x_mul (x_var 2) x_int (.inr ⟨by decide, by decide⟩)) (x_mod (x_intI W.b_int (x_var 3)) x_int (by decide))) x_int)) x_int (by decide)) ⟨_, _, Int.emod_nonneg _ (by decide), Int.emod_lt_of_pos _ (by decide), rfl⟩)
    · subst e
      refine hd_ret (cs := (ns.take 63).reverse) (m := m) ?_ (fun _ => rfl) h0 h1 (by rw [List.length_reverse, List.length_take]; omega)
      exact m_disp (ks := ["cells", "mixed", "draws"]) (xs := [.lst ((ns.take 63).reverse.map .int), .int m, .int 0]) (xpp_cons (XE.eq (XL.xe (l_rev (XE.r (x_var 1)))) (by rw [List.map_reverse])) (xpp_cons (x_var 2) (xpp_cons x_int xpp_nil))) (by decide) rfl (by decide)
  have st1 : ∃ t, PS X (d_law_deck.body.headD (.Pass ⟨0, 0, 0, 0⟩)) t ∧ ∀ (E' : Ends) (H' : Hp), H' = H → (∀ p H'', (∀ b o, H b = some o → H'' b = some o) → H p = none → H'' p = some (.lst ((ns.take 63).map V.int)) → E'.nx [some (.ref a), some (.ref p), some (.int 10870089), none] H'') → t E' [some (.ref a), none, none, none] H' := by
    refine ⟨_, ps_par (i := 1) (j := 2) (X := X) rfl nd rfl rfl (by decide) rfl rfl (pa_cons (pe_callTy call_list_of rfl W.b_list (by decide +kernel) (pa_cons (pe_slice sl_list (pe_var (i := 0) rfl (by first | exact Or.inl rfl | exact Or.inr (Or.inl rfl))) po_none (po_some pe_int)) pa_nil)) (pa_cons pe_int pa_nil)) rfl rfl, fun E' H' eH q => ?_⟩
    subst eH
    refine ⟨.ref a, rfl, 63, rfl, a, _, rfl, hq, fun q1 hq1 => ?_⟩
    refine ⟨q1, _, rfl, .inl (SqL.of L2.upd_same), fun p hp => ⟨_, _, rfl, q p _ (fun b o e => ?_) ?_ ?_⟩⟩
    · rw [L2.upd_ne (ne_of_none (by rw [L2.upd_ne (ne_of_none e hq1)]; exact e) hp), L2.upd_ne (ne_of_none e hq1)]; exact e
    · by_cases z : p = q1
      · subst z; rw [L2.upd_same] at hp; cases hp
      · rw [L2.upd_ne z] at hp; exact hp
    · rw [L2.upd_same]
      congr 2
      rw [cut_take (by decide), ← List.map_take]
      rfl
  obtain ⟨t, h1, h2⟩ := st1
  refine ⟨_, PSs.imp (pss_hide (X := X) (pss_cons h1 (any_sd (F := F0) (sts := d_law_deck.body.drop 1)))).nox (fun _ _ _ z => z), ?_⟩
  refine ⟨fun v H' => dkG H v H', h2 _ H rfl fun p H'' keep hp hl => ⟨[.un, .L ((ns.take 63).map .int), .d (.int 10870089), .un], tail _ rfl, fun _ => none, ?_, fun v H' g => g⟩, fun v H' ⟨d, c, m, cs, ev, hd, hc, ne, sm, ed, ec, m0, m1, hl⟩ => ⟨c, cs, hl, ec, ?_⟩⟩
  · refine ⟨fun b o e => (by cases e), fun b o e => (by cases e), keep, fun b o e => (by cases e), rfl, fun i y e => ?_, fun i l e io => ?_, fun i j l m a e1 o1 e2 o2 e3 e4 => ?_⟩
    · match i, e with
      | 0, e => cases e
      | 1, e => cases e
      | 2, e => cases e; exact ⟨_, rfl, rep_int.mpr rfl⟩
      | 3, e => cases e
      | _ + 4, e => simp at e
    · match i, e with
      | 0, e => cases e; cases io
      | 1, e => cases e; exact ⟨p, rfl, rfl, hp, _, hl, reps_ints⟩
      | 2, e => cases e; cases io
      | 3, e => cases e; cases io
      | _ + 4, e => simp at e
    · have key : ∀ (i : Nat) (l : LV), ([.un, .L ((ns.take 63).map .int), .d (.int 10870089), .un] : List LV)[i]? = some l → isOwn l = true → i = 1 := fun i l e io => by
        match i, e with
        | 0, e => cases e; cases io
        | 1, e => rfl
        | 2, e => cases e; cases io
        | 3, e => cases e; cases io
        | _ + 4, e => simp at e
      rw [key i l e1 o1, key j m e2 o2]
  · subst ev
    have hcb : ∀ b o, H b = some o → b ≠ c := fun b o e z => by subst z; rw [hc] at e; cases e
    exact cc d c _ m (fun b o e => by rw [L2.upd_ne (hcb b o e)]; exact sm b o e) hd hc ne (by rw [L2.upd_ne (Ne.symm ne)]; exact ed) m0 m1 L2.upd_same
end
end Tly
end
section
set_option Elab.async false
set_option linter.all false
set_option maxRecDepth 100000
set_option maxHeartbeats 2000000
namespace Tly
open PySem PySem.Spec PyProof.Rows L2 Dl
section
variable {P : Program} {w : World} {K : PySem.W.Frag} {mg : Str → Option Value} {base : Heap}
/-- the second count's tables, as many as there are digits -/
def mateT (a b : Tal) : Tal := ⟨a.dg, b.start, ((List.replicate 3 b.tables).flatten).take a.dg.length, b.ends⟩
theorem mate_tab {a b : Tal} {m : Tab} (h : m ∈ (mateT a b).tables) : m ∈ b.tables := by
  have := List.mem_of_mem_take h
  obtain ⟨l, hl, hm⟩ := List.mem_flatten.mp this
  rw [(List.mem_replicate.mp hl).2] at hm
  exact hm
theorem mate_ok {a b : Tal} (ha : a.Ok) (hb : b.Ok) : (mateT a b).Ok where
  pos := hb.pos
  sml := hb.sml
  ends := hb.ends
  tabs := fun m hm => hb.tabs m (mate_tab hm)
  len := by
    show (((List.replicate 3 b.tables).flatten).take a.dg.length).length = a.dg.length
    have h1 := hb.tl
    have h2 := ha.dlen
    rw [List.length_take, List.length_flatten]
    simp
    omega
  dgs := ha.dgs
  nn := fun m hm => hb.nn m (mate_tab hm)
  nnS := hb.nnS
  nnE := hb.nnE
  bd := fun m hm => hb.bd m (mate_tab hm)
theorem mate_base {a b : Tal} (hb : b.Base) : (mateT a b).Base := ⟨hb.n, hb.s, hb.e, fun m hm => hb.t m (mate_tab hm)⟩
def spLaw (K : PySem.W.Frag) : Sp := fun vs H Q _ => ∃ (a : Addr) (ns : List Int), vs = [.ref a] ∧ SqL K H a (ns.map V.int) ∧ ns.length ≤ 63 ∧ Only H ∧ ∀ H', Q (.bl true) H'
abbrev NLaw : List Str := ["_law_script", "_law_deck_here", "_law_w", "_law_v", "_law_code_here", "_law_many", "_law_mate", "_law_near", "_law_far", "_law_way"]
theorem sc_law : FnScope NLaw ["_law_script"] (defScope s_law) := ⟨rfl, rfl, rfl, by decide +kernel, rfl, by decide +kernel, by decide +kernel⟩
theorem law_rest (W : Wd K mg) {f : Addr} {cdv : Value} {A : Around} {outer : List Env} {s : Shared} {H : Hp} {E : XK} {B Z : Hp} {d c : Addr} (hr : Room 11 (cxF P w K mg base NLaw d_law.qual d_law.scope f cdv A outer s H E).A) :
    HSY (cxF P w K mg base NLaw d_law.qual d_law.scope f cdv A outer s H E) ⟨TA K, P, w, B, Z⟩ (d_law.body.drop 1) [.un, .K d c 0, .un, .un, .un, .un, .un, .un, .un, .un] (fun x _ => x = .bl true) := by
  have nd := sc_law.nd
  have hu1 := Nat.lt_of_le_of_lt (Nat.add_le_add_left (show 1 ≤ 64 by decide) _) hr.units
  refine hy_cons (fun δ => ∃ (n : Nat) (a b : Tal), n ≤ 400 ∧ a.Ok ∧ a.Base ∧ a.n ≤ 3 ∧ b.Ok ∧ b.Base ∧ b.n ≤ 2 ∧ δ = [.un, .K d c n, .d (wD a), .d (wD b), .un, .un, .un, .un, .un, .un])
    (hs_parY 2 3 (δ := fun n => [.un, .K d c n, .un, .un, .un, .un, .un, .un, .un, .un]) (i := 1) (n := 0) (Pa := fun z => ∃ t : Tal, t.Ok ∧ t.Base ∧ t.n ≤ 3 ∧ z = wD t) (Pb := fun z => ∃ t : Tal, t.Ok ∧ t.Base ∧ t.n ≤ 2 ∧ z = wD t) (k1 := 200) (k := 400) nd
      (y_call ⟨fun _ => rfl, fun _ _ => rfl⟩ (ok_law_count W) (hr.mono (by omega)) (a_cons x_int a_nil) ⟨3, by omega, by omega, by omega, rfl, rfl, rfl⟩)
      (fun m hm => YE.mono (k1 := m + 200) (y_call ⟨fun _ => rfl, fun _ _ => rfl⟩ (ok_law_count W) (hr.mono (by omega)) (a_cons x_int a_nil) ⟨2, by omega, by omega, by omega, rfl, rfl, rfl⟩) (fun x hx => hx) (by omega))
      fun x y m ⟨a, h1, h2, h3, ex⟩ ⟨b, g1, g2, g3, ey⟩ hm => ⟨m, a, b, hm, h1, h2, h3, g1, g2, g3, by rw [ex, ey]; rfl⟩) fun δ ⟨n, a, b, hn, oa, ba, na, ob, bb, nb, e⟩ => ?_
  subst e
  have om := mate_ok oa ob
  have bm := mate_base (a := a) bb
  have nm : (mateT a b).n ≤ 2 := nb
  have hdl := oa.dlen
  have htl := ob.tl
  refine hy_seq [.un, .K d c n, .d (wD a), .d (wD b), .d a.d, .d (.int (a.dg.length : Int)), .un, .un, .un, .un] (fun Φ h => hs_par 4 5 nd (.d (x_call (ok__law_code W) (hr.mono (by omega)) (a_cons (x_var 2) a_nil) ⟨a, oa, rfl, rfl⟩)) (.d (XE.eq (x_lenS W.b_len (x_dget (k := .inr "digits") hu1 (XE.r (x_var 2)) x_str rfl (by rfl)) (by rw [show (mkS a.dg).length = a.dg.length from mkS_size, sizeLine_eq]; omega)) (by rw [show (mkS a.dg).length = a.dg.length from mkS_size]))) h) ?_
  refine hy_seq [.un, .K d c n, .d (wD a), .d (wD b), .d a.d, .d (.int (a.dg.length : Int)), .d (mateT a b).d, .un, .un, .un] (fun Φ h => hs_set 6 nd (x_call (ok__law_code W) (hr.mono (by omega)) (a_cons (XM.xe (m_dictPairs (k1 := .inr "digits") (k2 := .inr "start") (k3 := .inr "tables") (k4 := .inr "ends") (x1 := .str (mkS b.dg)) (x2 := rowD b.start) (x3 := .tup (b.tables.map tabD)) (x4 := rowD b.ends) (y1 := .str (mkS a.dg)) (y3 := .tup ((mateT a b).tables.map tabD)) W.b_dict (XE.r (XL.xe (XL.eq (l_catL (XE.r (x_items W.b_list (XE.r (x_var 3)))) (XE.r (XL.xe (l_lst (a_cons (x_tup (a_cons x_str (a_cons (x_dget (k := .inr "digits") hu1 (XE.r (x_var 2)) x_str rfl (by rfl)) a_nil))) (a_cons (x_tup (a_cons x_str (a_cons (XE.eq (x_takeT (x_repT (x_dget (k := .inr "tables") (x := .tup (b.tables.map tabD)) hu1 (XE.r (x_var 3)) x_str rfl (by rfl)) x_int (by
      intro z
      have := congrArg List.length z
      rw [List.length_map] at this
      simp at this
      rw [this] at htl
      simp at htl) (by decide) (by decide) (by rw [List.length_map]; omega)) (x_var 5) (by omega)) (show _ = D.tup ((mateT a b).tables.map tabD) by
      show D.tup _ = D.tup ((((List.replicate 3 b.tables).flatten).take a.dg.length).map tabD)
      rw [List.map_take, List.map_flatten, List.map_replicate, Int.toNat_natCast]
      rfl)) a_nil))) a_nil))))) (sl_ok (by simp))) rfl))) (by decide))) a_nil) ⟨mateT a b, om, rfl, rfl⟩) h) ?_
  refine hy_seq [.un, .K d c n, .d (wD a), .d (wD b), .d a.d, .d (.int (a.dg.length : Int)), .d (mateT a b).d, .d (.int (kind a)), .d (.int (kind (mateT a b))), .un] (fun Φ h => hs_par 7 8 nd (.d (x_call (ok__law_kind W) (hr.mono (by omega)) (a_cons (x_var 4) a_nil) ⟨a, oa, rfl, rfl⟩)) (.d (x_call (ok__law_kind W) (hr.mono (by omega)) (a_cons (x_var 6) a_nil) ⟨mateT a b, om, rfl, rfl⟩)) h) ?_
  refine hy_if (q := false) (XT.eq (XW.t (w_or (t_isN (x_var 7)) fun _ => w_or1 (t_isN (x_var 8)))) rfl) (fun z => by cases z) fun _ => ?_
  refine hy_cons (fun δ => ∃ (m : Nat) (q : Int), m ≤ 401 ∧ δ = [.un, .K d c m, .d (wD a), .d (wD b), .d a.d, .d (.int (a.dg.length : Int)), .d (mateT a b).d, .d (.int (kind a)), .d (.int (kind (mateT a b))), .d (.int q)])
    (hs_setY 9 (δ := fun n => [.un, .K d c n, .d (wD a), .d (wD b), .d a.d, .d (.int (a.dg.length : Int)), .d (mateT a b).d, .d (.int (kind a)), .d (.int (kind (mateT a b))), .un]) (i := 1) (P := IR 0 2) (k := n + 1) nd (y_call ⟨fun _ => rfl, fun _ _ => rfl⟩ (ok_law_draw W) (hr.mono (by omega)) (a_cons x_int a_nil) ⟨3, by omega, by omega, by omega, rfl, rfl, rfl⟩) fun x m ⟨q, ex, _, _⟩ hm => ⟨m, q, by omega, by rw [ex]; rfl⟩) fun δ ⟨m, q, hm, e⟩ => ?_
  subst e
  have hs1 : a.n + (mateT a b).n ≤ 9 := by omega
  have hs2 : a.n * (mateT a b).n ≤ 9 := Nat.le_trans (Nat.mul_le_mul na nm) (by decide)
  have hs3 : a.n * a.n ≤ 9 := Nat.le_trans (Nat.mul_le_mul na na) (by decide)
  let δ2 : Nat → List LV := fun m => [.un, .K d c m, .d (wD a), .d (wD b), .d a.d, .d (.int (a.dg.length : Int)), .d (mateT a b).d, .d (.int (kind a)), .d (.int (kind (mateT a b))), .d (.int q)]
  refine hy_if (t_eq (x_var 9) x_int) (fun _ => ?_) fun _ => ?_
  · exact hy_ret (δ := δ2) (i := 1) (P := fun z => z = .bl true) (k := m) (xe_y (x_call (ok__law_added_right W) (hr.mono (by omega)) (a_cons (x_var 4) (a_cons (x_var 6) (a_cons (x_var 7) (a_cons (x_var 8) a_nil)))) ⟨a, mateT a b, oa, om, rfl, hs1, rfl, rfl⟩) rfl (Nat.le_refl _)) fun x m' ex _ => ex
  refine hy_if (t_eq (x_var 9) x_int) (fun _ => ?_) fun _ => ?_
  · exact hy_ret (δ := δ2) (i := 1) (P := fun z => z = .bl true) (k := m) (xe_y (x_call (ok__law_product_right W) (hr.mono (by omega)) (a_cons (x_var 4) (a_cons (x_var 6) (a_cons (x_var 7) (a_cons (x_var 8) a_nil)))) ⟨a, mateT a b, oa, om, ba, bm, rfl, hs2, hs3, rfl, rfl⟩) rfl (Nat.le_refl _)) fun x m' ex _ => ex
  exact hy_ret (δ := δ2) (i := 1) (P := fun z => z = .bl true) (k := m + 10) (y_and (x_call (ok__law_met_right W) (hr.mono (by omega)) (a_cons (x_var 4) (a_cons (x_var 6) (a_cons (x_var 7) (a_cons (x_var 8) a_nil)))) ⟨a, mateT a b, oa, om, ba, bm, rfl, hs1, rfl, rfl⟩) (y_and1 (y_call ⟨fun _ => rfl, fun _ _ => rfl⟩ (ok_law_cut_right W) (hr.mono (by omega)) (a_cons (x_var 4) (a_cons (x_var 7) a_nil)) ⟨a, oa, ba, by omega, rfl, rfl, rfl⟩))) fun x m' ex _ => ex
theorem ok_law (W : Wd K mg) {f : Addr} {fd : FuncData} (F : FunD K d_law.name d_law.qual d_law.params d_law.body d_law.scope [] [] f fd) : FnOk P w K mg base CX0 12 f fd ["_law_script"] (spLaw K) := by
  have S := sc_law
  have nd := S.nd
  refine F.ok S (fun vs H Q E ⟨a, ns, e, _⟩ => by rw [e]; rfl) fun cdv A outer s H vs Q E hr hsp => ?_
  obtain ⟨a, ns, rfl, hq, _, _, cc⟩ := hsp
  let X := cxF P w K mg base NLaw d_law.qual d_law.scope f cdv A outer s H E
  have hr' : Room 11 X.A := hr
  obtain ⟨fa, fd', hm, hk, hb, hF⟩ := ok_law_deck (P := P) (w := w) (base := base) W
  have st1 : ∃ t, PS X (d_law.body.headD (.Pass ⟨0, 0, 0, 0⟩)) t ∧ ∀ (E' : Ends) (H' : Hp), H' = H → (∀ (d c : Addr) (H'' : Hp) (m : Int), (∀ b o, H b = some o → H'' b = some o) → H d = none → H c = none → c ≠ d → H'' d = some (.dK (dKvs c m 0)) → 0 ≤ m → m < 2147483587 → H'' c = some (.ext (cellsR c)) → E'.nx [some (.ref a), some (.ref d), none, none, none, none, none, none, none, none] H'') → t E' [some (.ref a), none, none, none, none, none, none, none, none, none] H' := by
    refine ⟨_, ps_set (X := X) (i := 1) nd rfl (Or.inl rfl) (pe_call hF (hr'.mono (by omega)) rfl hm hk hb .nil (E := E0) pass0 (pa_cons (pe_var (i := 0) rfl (Or.inl rfl)) pa_nil)) rfl (.inl rfl), fun E' H' eH q => ?_⟩
    subst eH
    exact ⟨.ref a, rfl, a, ns, rfl, hq, fun d c H'' m h1 h2 h3 h4 h5 h6 h7 h8 => q d c H'' m h1 h2 h3 h4 h5 h6 h7 h8⟩
  obtain ⟨t, h1, h2⟩ := st1
  refine ⟨_, PSs.imp (pss_cons h1 (any_f (T := TA K) (Pg := P) (w := w) (sts := d_law.body.drop 1))).nox (fun _ _ _ z => z), ?_⟩
  refine h2 _ H rfl fun d c H'' m keep hd hc ne ed m0 m1 ec => ?_
  refine ⟨fun b => if b = d then none else H'' b, fun _ => none, _, _, law_rest (d := d) (c := c) W hr', fun _ => none, ?_, fun v σ' H' H0' δ' x _ _ r ex => ?_⟩
  · refine ⟨fun b o e => (by cases e), fun b o e => (by cases e), fun b o e => ?_, fun b o e => (by cases e), rfl, fun i y e => ?_, fun i l e io => ?_, fun i j l m' a' e1 o1 e2 o2 e3 e4 => ?_⟩
    · have e : (if b = d then none else H'' b) = some o := e
      by_cases z : b = d
      · rw [if_pos z] at e; cases e
      · rw [if_neg z] at e; exact e
    · match i, e with
      | 0, e => cases e
      | 1, e => cases e
      | 2, e => cases e
      | 3, e => cases e
      | 4, e => cases e
      | 5, e => cases e
      | 6, e => cases e
      | 7, e => cases e
      | 8, e => cases e
      | 9, e => cases e
      | _ + 10, e => simp at e
    · match i, e with
      | 0, e => cases e; cases io
      | 1, e => cases e; exact ⟨d, rfl, rfl, if_pos rfl, rfl, (if_neg ne).trans ec, m, 0, ed, m0, m1, by decide, by decide⟩
      | 2, e => cases e; cases io
      | 3, e => cases e; cases io
      | 4, e => cases e; cases io
      | 5, e => cases e; cases io
      | 6, e => cases e; cases io
      | 7, e => cases e; cases io
      | 8, e => cases e; cases io
      | 9, e => cases e; cases io
      | _ + 10, e => simp at e
    · have key : ∀ (i : Nat) (l : LV), ([.un, .K d c 0, .un, .un, .un, .un, .un, .un, .un, .un] : List LV)[i]? = some l → isOwn l = true → i = 1 := fun i l e io => by
        match i, e with
        | 0, e => cases e; cases io
        | 1, e => rfl
        | 2, e => cases e; cases io
        | 3, e => cases e; cases io
        | 4, e => cases e; cases io
        | 5, e => cases e; cases io
        | 6, e => cases e; cases io
        | 7, e => cases e; cases io
        | 8, e => cases e; cases io
        | 9, e => cases e; cases io
        | _ + 10, e => simp at e
      rw [key i l e1 o1, key j m' e2 o2]
  · subst ex
    rw [rep_bl.mp r]
    exact cc H'
end
theorem facts {P : Program} {w : World} {K : PySem.W.Frag} {h : Heap} {mg : Str → Option Value} {f : Addr} (X : K.In h) (G : h.Ns mainGlobals mg) (hfa : mg ("law" : Str) = some (.ref f)) (c : He.SaysD fa fn K) :
    ∃ fd : FuncData, (∀ (s : Shared) (v : Value), BindsTo s fd ⟨[v], []⟩ [("_law_script", v)]) ∧ ∀ base : Heap, K.In base → base.Ns mainGlobals mg → FnOk P w K mg base CX0 30 f fd ["_law_script"] (spLaw K) := by
  have W : Wd K mg := ⟨⟨h, X, G⟩, c⟩
  obtain ⟨fd, F⟩ := W.says.def_ 74 (d := d_law) rfl
  have e1 : d_law.dvs K = [] := rfl
  have e2 : d_law.kws K = [] := rfl
  rw [e1, e2] at F
  have ea : He.fAd K d_law.at_ = He.ga K "law" := rfl
  rw [ea] at F
  have ef : f = He.ga K "law" := by
    have := W.glo 69 (n := "law") rfl
    rw [hfa] at this
    cases this
    rfl
  subst ef
  refine ⟨fd, fun s v => ?_, fun base _ _ => (ok_law W F).mono (by decide)⟩
  exact F.bindsA (ps := ["_law_script"]) (fun _ _ _ _ _ _ us hl => match us, hl with | [_], _ => rfl) s [v] rfl
end Tly
end
section
set_option Elab.async false
set_option linter.all false
set_option maxRecDepth 100000
set_option maxHeartbeats 0
open PySem PySem.W PySem.Calls PyProof.Rows
theorem PySem.Challenge.cw_tallyhouse_k89_whole_growth_of_made_coun_holds : PySem.Challenge.rw_tallyhouse_k89_whole_growth_of_made_coun.Holds := by
  w_on; o_law
  refine HandSHeadRun.head_any (r := OpenLaw.row PySem.Challenge.rw_tallyhouse_k89_whole_growth_of_made_coun) (q := view (OpenLaw.row PySem.Challenge.rw_tallyhouse_k89_whole_growth_of_made_coun).prog [110]) (H := Tly.hk) (ob := Tly.ob) (M := 9000) (loose := Tly.loose) (d := HandSHeadRun.topDef (OpenLaw.row PySem.Challenge.rw_tallyhouse_k89_whole_growth_of_made_coun).prog 110) (kwd := []) Tly.ob_eq
    (by kernel_rfl) (fun s => by kernel_rfl) Tly.run (by kernel_rfl) (by kernel_rfl) (by kernel_rfl) (by rfl) (by first | assumption | decide +kernel) (by decide +kernel) ⟨rfl, rfl, rfl, rfl, rfl, by decide +kernel⟩ ?hw ?hc
  case hw => w_witness2
  case hc =>
    refine L2.walk_ofE (l := PySem.Challenge.rw_tallyhouse_k89_whole_growth_of_made_coun) (n := 63) (k := 30) (x := "_law_script") (CX := L2.CX0) rfl (by decide) (by kernel_rfl) ⟨rfl, by decide, by decide⟩ ?F (fun _ _ _ _ z => z)
    intro w mg fa h Y G hmg0
    obtain ⟨K, KX, c⟩ := Y
    have hmg : mg ("law" : PySem.Str) = some (.ref fa) := by
      have e : (HandSHeadRun.topDef (OpenLaw.row PySem.Challenge.rw_tallyhouse_k89_whole_growth_of_made_coun).prog 110).name = ("law" : PySem.Str) := by kernel_rfl
      rw [← e]
      exact hmg0
    obtain ⟨fd, hb, hF⟩ := Tly.facts (P := (PySem.Challenge.rw_tallyhouse_k89_whole_growth_of_made_coun).prog) (w := w) KX G hmg c
    exact ⟨K, fd, Tly.spLaw K, KX, hb, fun H a ns hl ho hS => ⟨a, ns, rfl, hS, hl, ho, fun _ => rfl⟩, hF⟩
end
